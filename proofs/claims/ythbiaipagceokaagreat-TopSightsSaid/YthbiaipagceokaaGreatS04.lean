/- Walks of package pair: Why, Distance. -/
import Derived.Test.YthbiaipagceokaaGreatS03
import Derived.Test.YthbiaipagceokaaGreatProg
set_option linter.unusedSimpArgs false
set_option linter.unusedVariables false
set_option linter.unusedSectionVars false
namespace Go.Proofs.YthbiaipagceokaaGreat
open Go Go.Eng Go.Pw1

theorem AT1 (p : Pr) (hp : p.Ok) (q : Option Addr) (cap : Nat) (pw : Int × Int) (t : Th) (ht : t.Ok) (bv bs b6 b7 : Nat) (W : World) (hV : W.heap[bv]? = some (.cells (vwCells p q cap pw).toArray 71 (0, 0)))
    (hR : W.heap[bs]? = some (.cells [.func (.func 120) #[] #[], .func (.func 121) #[] #[], .func (.func 122) #[] #[], .func (.func 123) #[] #[]].toArray 201 (0, 0)))
    (h6 : W.heap[b6]? = some (.cells [.pointer (some ⟨bv, 0, none⟩)].toArray 67 (0, 0))) (h7 : W.heap[b7]? = some (.cells t.cells.toArray 36 (0, 0))) :
    Calls Tryz.prog 124 #[.slice (some ⟨bs, 0, none⟩) 4 4, .func (.func 125) #[] #[.pointer (some ⟨b6, 0, none⟩), .pointer (some ⟨b7, 0, none⟩)]] W
      (Pure (.int .i64 (idxF id [!levelS p t, decide ((shift t).2 < 0), decide (2000 < (shift t).1 ∨ pw.2 < (shift t).1 * p.near), true])) W) :=
  AH8 [(.func (.func 120) #[] #[], !levelS p t), (.func (.func 121) #[] #[], decide ((shift t).2 < 0)), (.func (.func 122) #[] #[], decide (2000 < (shift t).1 ∨ pw.2 < (shift t).1 * p.near)), (.func (.func 123) #[] #[], true)]
    (some ⟨bs, 0, none⟩) bs 0 4 125 [.pointer (some ⟨b6, 0, none⟩), .pointer (some ⟨b7, 0, none⟩)] W (Sl.row1 hR) (by simp) BV2 (fun e he w hm => by
      simp only [List.mem_cons, List.not_mem_nil, or_false] at he
      rcases he with rfl | rfl | rfl | rfl
      · exact Ax7 _ _ t _ b6 b7 w (hm.old_at h6 (by simp)) (hm.old_at h7 (by simp)) BV7 (fun w2 hm2 => Bo1 p hp q cap pw t ht bv w2 (hm2.old_at (hm.old_at hV (by simp)) (by simp)))
      · exact Ax7 _ _ t _ b6 b7 w (hm.old_at h6 (by simp)) (hm.old_at h7 (by simp)) BV6 (fun w2 hm2 => Bb7 t ht _ w2)
      · exact Ax7 _ _ t _ b6 b7 w (hm.old_at h6 (by simp)) (hm.old_at h7 (by simp)) BV5 (fun w2 hm2 => Bg6 p hp q cap pw t ht bv w2 (hm2.old_at (hm.old_at hV (by simp)) (by simp)))
      · exact Ax7 _ _ t _ b6 b7 w (hm.old_at h6 (by simp)) (hm.old_at h7 (by simp)) BV4 (fun w2 hm2 => Br8 t _ w2))
theorem BD5 (p : Pr) (n : Int) (q : Option Addr) (b o cap : Nat) (W : World) (hS : Sl W q b o 9 (p.things.map Th.cells)) (hl : p.things.length ≤ 100000000000) :
    Calls Tryz.prog 95 #[p.v q cap, .int .i64 n] W (Pure (.tuple #[.int .i64 (whyX p n).1, .int .i64 (whyX p n).2]) W) := by
  refine Af0 Tryz.func95 rfl rfl ?_
  refine st ?_
  refine zn (New.box rfl) (fun b2 => ?_)
  refine zn (New.alloc Ar5) (fun b5 => ?_)
  refine RunL.defer rfl ?_
  refine su ?_
  refine zn (New.buildSlice (parts := [(0, .tmp 12)]) rfl Am6 Az7 rfl rfl rfl rfl) (fun b13 => ?_)
  refine Ak5 (zF rfl BC2) rfl rfl rfl (fun w hm => Aw3 p q b o cap [_] _ _ _ _ w (hS.mono (by decide) hm (by simp)) hl (Sl.row1 (hm.at (.head _))) (by simp)) (fun e14 he14 => ?_) (fun a14 ha14 b14 => ?_)
  ·refine Ab6 ?_
   exact Al7 Ah8 Ak9 (.there .here) (.r2 rfl (.tmp rfl) (.one rfl (.tail _ (.head _)) Ah4 rfl)) (by simp [whyX, he14])
  obtain ⟨hp, hop, wb1, wb2, wb3⟩ := AW5 ha14
  obtain ⟨k, rfl, hk⟩ := Ay4 hop (List.mem_singleton.2 rfl)
  obtain ⟨t, ht⟩ : ∃ t, p.things[k] = t := ⟨_, rfl⟩
  have hth := hp.ths _ (List.getElem_mem hk)
  rw [ht] at hth
  refine zn (New.alloc BR0) (fun b6 => ?_)
  refine Aa9 (Sto.store rfl rfl .here BR8 rfl rfl) rfl rfl ?_
  refine su ?_
  refine lv (Ab0 rfl rfl Aw7 (by omega) (by omega) (hS.ptrM hk)) ?_
  refine lv (Ab8 rfl (fun w hm => hS.loadX (by decide) hm (by simp) Av7 hk ht)) ?_
  refine zn (New.alloc Av9) (fun b7 => ?_)
  refine Aa9 (Sto.store rfl rfl .here Av7 rfl rfl) rfl rfl ?_
  refine nnx ?_
  refine RunC.seq ?_
  refine RunC.seq ?_
  apply Aq2 (J := J1 _ _ _ _ _ _) 12 Al3 (.cons .here rfl (.cons .here rfl (.cons .here rfl (.cons .here rfl (.cons .here rfl (.cons .here rfl .nil))))))
  ·refine zw 0 ?_
   refine zw 1 ?_
   refine zw 2 ?_
   refine zw 3 ?_
   refine zw 4 ?_
   refine zw 5 ?_
   refine Ae8 (rs := [6, 10]) (by kernel_rfl) (by simp) (by kernel_rfl) (fun m hm => ?_)
   simp only [List.mem_cons, List.not_mem_nil, or_false] at hm
   rcases hm with rfl | rfl
   ·refine Ab4 rfl (zF rfl AQ4) rfl rfl rfl (fun w hm => Am0 p hp q cap a14 t hth.1 hth.2 a14 _ w (hm.at (.tail _ (.tail _ (.head _))))) (Aa0 (.cons .here rfl (.cons .here rfl (.cons .here rfl (.cons .here rfl (.cons .here rfl (.cons .here rfl .nil)))))) (.cons .here rfl (.cons .here rfl (.cons .here rfl (.cons .here rfl (.cons .here rfl (.cons .here rfl .nil)))))) rfl ?_)
    refine zw 7 ?_
    refine zw 8 ?_
    refine zw 9 ?_
    refine zA 10 ?_
    refine Ac8 rfl (New.alloc Ae3) rfl rfl rfl (fun b8 => (Aa0 (.cons (.there .here) rfl (.cons (.there .here) rfl (.cons (.there .here) rfl (.cons (.there .here) rfl (.cons (.there .here) rfl (.cons (.there .here) rfl .nil)))))) (.cons .here rfl (.cons .here rfl (.cons .here rfl (.cons .here rfl (.cons .here rfl (.cons .here rfl .nil)))))) rfl ?_))
    refine zA 11 ?_
    refine Ab9 rfl (Sto.store rfl rfl .here Ah6 rfl rfl) rfl rfl (Aa0 (.cons (.there .here) rfl (.cons (.there .here) rfl (.cons (.there .here) rfl (.cons (.there .here) rfl (.cons (.there .here) rfl (.cons (.there .here) rfl .nil)))))) (.cons .here rfl (.cons .here rfl (.cons .here rfl (.cons .here rfl (.cons .here rfl (.cons .here rfl .nil)))))) rfl ?_)
    refine zt ?_
    refine zp 12 ?_
    refine zd ?_
    refine Ae2 ?_
    exact Al0 b8 (Ab5 _) (Pick.refl _)
   refine Ac8 rfl (New.alloc Ae3) rfl rfl rfl (fun b8 => (Aa0 (.cons (.there .here) rfl (.cons (.there .here) rfl (.cons (.there .here) rfl (.cons (.there .here) rfl (.cons (.there .here) rfl (.cons (.there .here) rfl .nil)))))) (.cons .here rfl (.cons .here rfl (.cons .here rfl (.cons .here rfl (.cons .here rfl (.cons .here rfl .nil)))))) rfl ?_))
   refine zA 6 ?_
   refine Ab4 rfl (zF rfl AQ4) rfl rfl rfl (fun w hm => Am0 p hp q cap a14 t hth.1 hth.2 a14 _ w (hm.at (.tail _ (.tail _ (.tail _ (.head _)))))) (Aa0 (.cons (.there .here) rfl (.cons (.there .here) rfl (.cons (.there .here) rfl (.cons (.there .here) rfl (.cons (.there .here) rfl (.cons (.there .here) rfl .nil)))))) (.cons .here rfl (.cons .here rfl (.cons .here rfl (.cons .here rfl (.cons .here rfl (.cons .here rfl .nil)))))) rfl ?_)
   refine zw 7 ?_
   refine zw 8 ?_
   refine zw 9 ?_
   refine zA 11 ?_
   refine Ab9 rfl (Sto.store rfl rfl .here Ah6 rfl rfl) rfl rfl (Aa0 (.cons (.there .here) rfl (.cons (.there .here) rfl (.cons (.there .here) rfl (.cons (.there .here) rfl (.cons (.there .here) rfl (.cons (.there .here) rfl .nil)))))) (.cons .here rfl (.cons .here rfl (.cons .here rfl (.cons .here rfl (.cons .here rfl (.cons .here rfl .nil)))))) rfl ?_)
   refine zt ?_
   refine zp 12 ?_
   refine zd ?_
   refine Ae2 ?_
   exact Al0 b8 (zS 9 rfl (zS 8 rfl (zS 32 rfl (zS 31 rfl (zS 23 rfl (zS 30 rfl (zS 29 rfl (zS 28 rfl (zS 27 rfl (zS 26 rfl (zS 25 rfl (zS 24 rfl (Sub.skip rfl (Sub.skip rfl (Sub.skip rfl (Sub.skip rfl (Sub.skip rfl (Sub.skip rfl (Sub.skip rfl (Sub.skip rfl (Sub.skip rfl (Sub.skip rfl (Sub.skip rfl (Sub.skip rfl (Ab5 _))))))))))))))))))))))))) (.cons .here rfl (.cons .here rfl (.cons .here rfl (.cons .here rfl (.cons .here rfl (.cons .here rfl (.cons .here rfl .nil)))))))
  refine J1.out (fun b8 => ?_)
  refine st ?_
  refine cn rfl ?_ ?_
  ·intro c0'
   refine st ?_
   refine Aa9 (Sto.store rfl rfl (.there (.there (.there (.there (.there .here))))) Ah4 rfl rfl) rfl rfl ?_
   refine su ?_
   exact Ah3 Ah8 Ak9 (.r2 rfl (.tmp rfl) (.one rfl (.tail _ (.tail _ (.tail _ (.tail _ (.tail _ (.head _)))))) Ah4 rfl)) (by simp [whyX, ha14, Ae6 hk ht, whyS, c0'])
  intro c0'
  refine st ?_
  refine zn (New.buildSlice (parts := [(0, .func 120), (1, .func 121), (2, .func 122), (3, .func 123)]) rfl Bu8 BE7 rfl rfl rfl rfl) (fun b34 => ?_)
  refine Ab3 (zF rfl BV3) rfl rfl rfl (fun w hm => AT1 p hp q cap a14 t hth.1 _ _ _ _ w (hm.at (.tail _ (.tail _ (.tail _ (.tail _ (.head _)))))) (hm.at (.head _)) (hm.at (.tail _ (.tail _ (.tail _ (.head _))))) (hm.at (.tail _ (.tail _ (.head _))))) ?_
  have ig := Bf6 id [!levelS p t, decide ((shift t).2 < 0), decide (2000 < (shift t).1 ∨ a14.2 < (shift t).1 * p.near), true]
  have il := By8 id [!levelS p t, decide ((shift t).2 < 0), decide (2000 < (shift t).1 ∨ a14.2 < (shift t).1 * p.near), true]
  simp only [List.length_cons, List.length_nil] at il
  refine lv (Val.add rfl rfl (IntWalk.i64_in _ ⟨by omega, by omega⟩)) ?_
  refine Aa9 (Sto.store rfl rfl (.there (.there (.there (.there (.there (.there .here)))))) Ah4 rfl rfl) rfl rfl ?_
  refine su ?_
  exact Ah3 Ah8 Ak9 (.r2 rfl (.tmp rfl) (.one rfl (.tail _ (.tail _ (.tail _ (.tail _ (.tail _ (.tail _ (.head _))))))) Ah4 rfl)) (by simp only [whyX, ha14, Ae6 hk ht, whyS, c0', Bool.false_eq_true, if_false])
theorem Am3 (p : Pr) (n : Int) (q : Option Addr) (b o cap : Nat) (W : World) (hS : Sl W q b o 9 (p.things.map Th.cells)) (hl : p.things.length ≤ 100000000000) :
    Calls Tryz.prog 6 #[p.v q cap, .int .i64 n] W (Pure (.tuple #[b2v (distX p n).1, .int .i64 (distX p n).2]) W) := by
  refine Af0 Tryz.func6 rfl rfl ?_
  refine st ?_
  refine zn (New.box rfl) (fun b2 => ?_)
  refine zn (New.alloc Ac7) (fun b4 => ?_)
  refine zn (New.alloc Ar5) (fun b5 => ?_)
  refine RunL.defer rfl ?_
  refine su ?_
  refine zn (New.buildSlice (parts := [(0, .tmp 16)]) rfl Am6 Az7 rfl rfl rfl rfl) (fun b17 => ?_)
  refine Ak5 (zF rfl BC2) rfl rfl rfl (fun w hm => Aw3 p q b o cap [_] _ _ _ _ w (hS.mono (by decide) hm (by simp)) hl (Sl.row1 (hm.at (.head _))) (by simp)) (fun e18 he18 => ?_) (fun a18 ha18 b18 => ?_)
  ·refine Ab6 ?_
   exact Al7 Ah8 Ak9 (.there .here) (.r2 rfl (.agg rfl (.tail _ (.tail _ (.head _))) Ad7 rfl) (.one rfl (.tail _ (.head _)) Ah4 rfl)) (by simp [distX, he18, b2v])
  obtain ⟨hp, hop, wb1, wb2, wb3⟩ := AW5 ha18
  obtain ⟨k, rfl, hk⟩ := Ay4 hop (List.mem_singleton.2 rfl)
  obtain ⟨t, ht⟩ : ∃ t, p.things[k] = t := ⟨_, rfl⟩
  have hth := hp.ths _ (List.getElem_mem hk)
  rw [ht] at hth
  have n1 := hp.n1
  have n2 := hp.n2
  have n3 := hp.n3
  refine su ?_
  refine lv (Ab0 rfl rfl Aw7 (by omega) (by omega) (hS.ptrM hk)) ?_
  refine lv (Ab8 rfl (fun w hm => hS.loadX (by decide) hm (by simp) Av7 hk ht)) ?_
  refine zn (New.alloc Av9) (fun b7 => ?_)
  refine Aa9 (Sto.store rfl rfl .here Av7 rfl rfl) rfl rfl ?_
  refine nnx ?_
  refine RunC.seq ?_
  apply Aq2 (J := J1 _ _ _ _ _ _) 12 Al3 (.cons .here rfl (.cons .here rfl (.cons .here rfl (.cons .here rfl (.cons .here rfl (.cons .here rfl .nil))))))
  ·refine zw 0 ?_
   refine zw 1 ?_
   refine zw 2 ?_
   refine zw 3 ?_
   refine zw 4 ?_
   refine zw 5 ?_
   refine Ae8 (rs := [6, 10]) (by kernel_rfl) (by simp) (by kernel_rfl) (fun m hm => ?_)
   simp only [List.mem_cons, List.not_mem_nil, or_false] at hm
   rcases hm with rfl | rfl
   ·refine Ab4 rfl (zF rfl AQ4) rfl rfl rfl (fun w hm => Am0 p hp q cap a18 t hth.1 hth.2 a18 _ w (hm.at (.tail _ (.head _)))) (Aa0 (.cons .here rfl (.cons .here rfl (.cons .here rfl (.cons .here rfl (.cons .here rfl (.cons .here rfl .nil)))))) (.cons .here rfl (.cons .here rfl (.cons .here rfl (.cons .here rfl (.cons .here rfl (.cons .here rfl .nil)))))) rfl ?_)
    refine zw 7 ?_
    refine zw 8 ?_
    refine zw 9 ?_
    refine zA 10 ?_
    refine Ac8 rfl (New.alloc Ae3) rfl rfl rfl (fun b8 => (Aa0 (.cons (.there .here) rfl (.cons (.there .here) rfl (.cons (.there .here) rfl (.cons (.there .here) rfl (.cons (.there .here) rfl (.cons (.there .here) rfl .nil)))))) (.cons .here rfl (.cons .here rfl (.cons .here rfl (.cons .here rfl (.cons .here rfl (.cons .here rfl .nil)))))) rfl ?_))
    refine zA 11 ?_
    refine Ab9 rfl (Sto.store rfl rfl .here Ah6 rfl rfl) rfl rfl (Aa0 (.cons (.there .here) rfl (.cons (.there .here) rfl (.cons (.there .here) rfl (.cons (.there .here) rfl (.cons (.there .here) rfl (.cons (.there .here) rfl .nil)))))) (.cons .here rfl (.cons .here rfl (.cons .here rfl (.cons .here rfl (.cons .here rfl (.cons .here rfl .nil)))))) rfl ?_)
    refine zt ?_
    refine zp 12 ?_
    refine zd ?_
    refine Ae2 ?_
    exact Al0 b8 (Ab5 _) (Pick.refl _)
   refine Ac8 rfl (New.alloc Ae3) rfl rfl rfl (fun b8 => (Aa0 (.cons (.there .here) rfl (.cons (.there .here) rfl (.cons (.there .here) rfl (.cons (.there .here) rfl (.cons (.there .here) rfl (.cons (.there .here) rfl .nil)))))) (.cons .here rfl (.cons .here rfl (.cons .here rfl (.cons .here rfl (.cons .here rfl (.cons .here rfl .nil)))))) rfl ?_))
   refine zA 6 ?_
   refine Ab4 rfl (zF rfl AQ4) rfl rfl rfl (fun w hm => Am0 p hp q cap a18 t hth.1 hth.2 a18 _ w (hm.at (.tail _ (.tail _ (.head _))))) (Aa0 (.cons (.there .here) rfl (.cons (.there .here) rfl (.cons (.there .here) rfl (.cons (.there .here) rfl (.cons (.there .here) rfl (.cons (.there .here) rfl .nil)))))) (.cons .here rfl (.cons .here rfl (.cons .here rfl (.cons .here rfl (.cons .here rfl (.cons .here rfl .nil)))))) rfl ?_)
   refine zw 7 ?_
   refine zw 8 ?_
   refine zw 9 ?_
   refine zA 11 ?_
   refine Ab9 rfl (Sto.store rfl rfl .here Ah6 rfl rfl) rfl rfl (Aa0 (.cons (.there .here) rfl (.cons (.there .here) rfl (.cons (.there .here) rfl (.cons (.there .here) rfl (.cons (.there .here) rfl (.cons (.there .here) rfl .nil)))))) (.cons .here rfl (.cons .here rfl (.cons .here rfl (.cons .here rfl (.cons .here rfl (.cons .here rfl .nil)))))) rfl ?_)
   refine zt ?_
   refine zp 12 ?_
   refine zd ?_
   refine Ae2 ?_
   exact Al0 b8 (zS 9 rfl (zS 8 rfl (zS 36 rfl (zS 35 rfl (zS 27 rfl (zS 34 rfl (zS 33 rfl (zS 32 rfl (zS 31 rfl (zS 30 rfl (zS 29 rfl (zS 28 rfl (Sub.skip rfl (Sub.skip rfl (Sub.skip rfl (Sub.skip rfl (Sub.skip rfl (Sub.skip rfl (Sub.skip rfl (Sub.skip rfl (Sub.skip rfl (Sub.skip rfl (Sub.skip rfl (Sub.skip rfl (Ab5 _))))))))))))))))))))))))) (.cons .here rfl (.cons .here rfl (.cons .here rfl (.cons .here rfl (.cons .here rfl (.cons .here rfl (.cons .here rfl .nil)))))))
  refine J1.out (fun b8 => ?_)
  refine st ?_
  refine Am1 (zF rfl Ba7) rfl rfl rfl (fun w hm => As4 _ _ w) (fun e38 he38 => ?_) (fun v38 hv38 => ?_)
  ·obtain ⟨er38, rfl⟩ := Ah0 he38
   refine Ab6 ?_
   exact Al7 Ah8 Ak9 (.there (.there (.there (.there .here)))) (.r2 rfl (.agg rfl (.tail _ (.tail _ (.tail _ (.tail _ (.tail _ (.head _)))))) Ad7 rfl) (.one rfl (.tail _ (.tail _ (.tail _ (.tail _ (.head _))))) Ah4 rfl)) (by simp [distX, ha18, Ae6 hk ht, er38, b2v])
  obtain ⟨ok38, rfl⟩ := Ai5 hv38
  refine su ?_
  refine cn rfl ?_ ?_
  ·intro c0'
   refine su ?_
   refine lv (Val.build (parts := [(0, .tmp 43), (1, .tmp 45)]) rfl Ac7 Ah7 rfl) ?_
   refine Aa9 (Sto.store rfl rfl (.there (.there (.there (.there (.there .here))))) Ad7 rfl rfl) rfl rfl ?_
   refine Aa9 (Sto.store rfl rfl (.there (.there (.there (.there .here)))) Ah4 rfl rfl) rfl rfl ?_
   refine su ?_
   exact Ah3 Ah8 Ak9 (.r2 rfl (.agg rfl (.tail _ (.tail _ (.tail _ (.tail _ (.tail _ (.head _)))))) Ad7 rfl) (.one rfl (.tail _ (.tail _ (.tail _ (.tail _ (.head _))))) Ah4 rfl)) (by simp [distX, ha18, Ae6 hk ht, ok38, c0', b2v])
  intro c0'
  have sb := At7 (Bu1 ok38).1
  refine su ?_
  refine zc (zF rfl BC1) (fun w hm => AA7 t hth.1 w) ?_
  refine zn (New.alloc Ae3) (fun b10 => ?_)
  refine Aa9 (Sto.store rfl rfl .here Ah6 rfl rfl) rfl rfl ?_
  refine su ?_
  refine lu (Aa8 rfl rfl Aj5 (by decide) (by decide)) ?_
  refine cn rfl ?_ ?_
  ·intro c1'
   refine At1 7 Al3 (.cons .here rfl (.cons .here rfl (.cons .here rfl (.cons .here rfl (.cons .here rfl (.cons .here rfl (.cons .here rfl (.cons .here rfl .nil)))))))) ?_
   refine zw 0 ?_
   refine zw 1 ?_
   refine zw 2 ?_
   refine zv 3 rfl (Aa8 rfl rfl Aj5 (by decide) (by decide)) ?_
   refine zw 4 ?_
   refine zv 5 rfl (Aa8 rfl rfl Aj5 (by decide) (by decide)) ?_
   refine zw 6 ?_
   refine zt ?_
   refine zo 7 rfl (Val.quo rfl rfl (by omega) (by omega) (IntWalk.i64_in _ (AM7 (by omega) (by omega) (by omega)))) ?_
   refine zp 8 ?_
   refine zd ?_
   refine Ae2 ?_
   refine RunE.next ?_
   refine RunC.seq ?_
   apply Aq2 (J := J2 _ _ _ _ _ _) 30 Al3 (.cons .here rfl (.cons .here rfl (.cons .here rfl (.cons .here rfl (.cons .here rfl (.cons .here rfl (.cons .here rfl (.cons .here rfl .nil))))))))
   ·refine zw 0 ?_
    refine zw 1 ?_
    refine zw 2 ?_
    refine zw 3 ?_
    refine zw 4 ?_
    refine zw 5 ?_
    refine zw 6 ?_
    refine zw 7 ?_
    refine zw 8 ?_
    refine zw 9 ?_
    refine zv 10 rfl (Val.build (parts := [(0, .tmp 73), (1, .tmp 78)]) rfl Ae3 Ai3 rfl) ?_
    refine zw 11 ?_
    refine zw 12 ?_
    refine zw 13 ?_
    refine zv 14 rfl (Aa8 rfl rfl Aj5 (by decide) (by decide)) ?_
    refine zw 15 ?_
    refine zv 16 rfl (Aa8 rfl rfl Aj5 (by decide) (by decide)) ?_
    refine zw 17 ?_
    refine zv 18 rfl (Val.add rfl rfl (IntWalk.i64_in _ ⟨by omega, by omega⟩)) ?_
    refine zv 19 rfl (Val.quo rfl rfl (by omega) (by omega) (IntWalk.i64_in _ (AM7 (by omega) (by omega) (by omega)))) ?_
    refine zv 20 rfl (Val.add rfl rfl (IntWalk.i64_in _ (Bm1 (by omega) (by omega) (by omega)))) ?_
    refine zw 21 ?_
    refine zv 22 rfl (Val.build (parts := [(0, .tmp 89), (1, .tmp 90)]) rfl Ae3 Ai3 rfl) ?_
    refine Ae8 (rs := [23, 28]) (by kernel_rfl) (by simp) (by kernel_rfl) (fun m hm => ?_)
    simp only [List.mem_cons, List.not_mem_nil, or_false] at hm
    rcases hm with rfl | rfl
    ·refine Ac8 rfl (New.buildSlice (parts := [(0, .tmp 91)]) rfl Aw8 Ae3 rfl rfl rfl rfl) rfl rfl rfl (fun b92 => (Aa0 (.cons .here rfl (.cons .here rfl (.cons .here rfl (.cons .here rfl (.cons .here rfl (.cons .here rfl (.cons .here rfl (.cons .here rfl (.cons .here rfl .nil))))))))) (.cons (.there .here) rfl (.cons (.there .here) rfl (.cons (.there .here) rfl (.cons (.there .here) rfl (.cons (.there .here) rfl (.cons (.there .here) rfl (.cons (.there .here) rfl (.cons (.there .here) rfl .nil)))))))) rfl ?_))
     refine Ae8 (rs := [24, 28]) (by kernel_rfl) (by simp) (by kernel_rfl) (fun m hm => ?_)
     simp only [List.mem_cons, List.not_mem_nil, or_false] at hm
     rcases hm with rfl | rfl
     ·refine Ab4 rfl (zF rfl Av6) rfl rfl rfl (fun w hm => Af7 (_, _) [(_, _)] _ _ _ _ w (Sl.one (hm.at (.head _)) rfl) (by simp)) (Aa0 (.cons .here rfl (.cons .here rfl (.cons .here rfl (.cons .here rfl (.cons .here rfl (.cons .here rfl (.cons .here rfl (.cons .here rfl (.cons .here rfl .nil))))))))) (.cons .here rfl (.cons .here rfl (.cons .here rfl (.cons .here rfl (.cons .here rfl (.cons .here rfl (.cons .here rfl (.cons .here rfl (.cons .here rfl .nil))))))))) rfl ?_)
      refine zw 25 ?_
      refine zw 26 ?_
      refine zw 27 ?_
      refine zA 28 ?_
      refine Ac8 rfl (New.alloc Ae3) rfl rfl rfl (fun b13 => (Aa0 (.cons (.there .here) rfl (.cons (.there .here) rfl (.cons (.there .here) rfl (.cons (.there .here) rfl (.cons (.there .here) rfl (.cons (.there .here) rfl (.cons (.there .here) rfl (.cons (.there .here) rfl (.cons (.there .here) rfl .nil))))))))) (.cons .here rfl (.cons .here rfl (.cons .here rfl (.cons .here rfl (.cons .here rfl (.cons .here rfl (.cons .here rfl (.cons .here rfl (.cons .here rfl .nil))))))))) rfl ?_))
      refine zA 29 ?_
      refine Ab9 rfl (Sto.store rfl rfl .here Ah6 rfl rfl) rfl rfl (Aa0 (.cons (.there .here) rfl (.cons (.there .here) rfl (.cons (.there .here) rfl (.cons (.there .here) rfl (.cons (.there .here) rfl (.cons (.there .here) rfl (.cons (.there .here) rfl (.cons (.there .here) rfl (.cons (.there .here) rfl .nil))))))))) (.cons .here rfl (.cons .here rfl (.cons .here rfl (.cons .here rfl (.cons .here rfl (.cons .here rfl (.cons .here rfl (.cons .here rfl (.cons .here rfl .nil))))))))) rfl ?_)
      refine zt ?_
      refine zp 30 ?_
      refine zd ?_
      refine Ae2 ?_
      exact Ae7 b92 b13 (Ab5 _) (Pick.refl _)
     refine Ac8 rfl (New.alloc Ae3) rfl rfl rfl (fun b13 => (Aa0 (.cons (.there .here) rfl (.cons (.there .here) rfl (.cons (.there .here) rfl (.cons (.there .here) rfl (.cons (.there .here) rfl (.cons (.there .here) rfl (.cons (.there .here) rfl (.cons (.there .here) rfl (.cons (.there .here) rfl .nil))))))))) (.cons .here rfl (.cons .here rfl (.cons .here rfl (.cons .here rfl (.cons .here rfl (.cons .here rfl (.cons .here rfl (.cons .here rfl (.cons .here rfl .nil))))))))) rfl ?_))
     refine zA 24 ?_
     refine Ab4 rfl (zF rfl Av6) rfl rfl rfl (fun w hm => Af7 (_, _) [(_, _)] _ _ _ _ w (Sl.one (hm.at (.tail _ (.head _))) rfl) (by simp)) (Aa0 (.cons (.there .here) rfl (.cons (.there .here) rfl (.cons (.there .here) rfl (.cons (.there .here) rfl (.cons (.there .here) rfl (.cons (.there .here) rfl (.cons (.there .here) rfl (.cons (.there .here) rfl (.cons (.there .here) rfl .nil))))))))) (.cons .here rfl (.cons .here rfl (.cons .here rfl (.cons .here rfl (.cons .here rfl (.cons .here rfl (.cons .here rfl (.cons .here rfl (.cons .here rfl .nil))))))))) rfl ?_)
     refine zw 25 ?_
     refine zw 26 ?_
     refine zw 27 ?_
     refine zA 29 ?_
     refine Ab9 rfl (Sto.store rfl rfl .here Ah6 rfl rfl) rfl rfl (Aa0 (.cons (.there .here) rfl (.cons (.there .here) rfl (.cons (.there .here) rfl (.cons (.there .here) rfl (.cons (.there .here) rfl (.cons (.there .here) rfl (.cons (.there .here) rfl (.cons (.there .here) rfl (.cons (.there .here) rfl .nil))))))))) (.cons .here rfl (.cons .here rfl (.cons .here rfl (.cons .here rfl (.cons .here rfl (.cons .here rfl (.cons .here rfl (.cons .here rfl (.cons .here rfl .nil))))))))) rfl ?_)
     refine zt ?_
     refine zp 30 ?_
     refine zd ?_
     refine Ae2 ?_
     exact Ae7 b92 b13 (zS 14 rfl (zS 13 rfl (zS 95 rfl (zS 94 rfl (zS 68 rfl (zS 93 rfl (zS 92 rfl (zS 91 rfl (zS 90 rfl (zS 89 rfl (zS 88 rfl (zS 87 rfl (zS 86 rfl (zS 85 rfl (zS 84 rfl (zS 83 rfl (zS 82 rfl (zS 81 rfl (zS 80 rfl (zS 79 rfl (zS 78 rfl (zS 77 rfl (zS 76 rfl (zS 75 rfl (zS 74 rfl (zS 73 rfl (zS 72 rfl (zS 71 rfl (zS 70 rfl (zS 69 rfl (Sub.skip rfl (Sub.skip rfl (Sub.skip rfl (Sub.skip rfl (Sub.skip rfl (Sub.skip rfl (Sub.skip rfl (Sub.skip rfl (Sub.skip rfl (Sub.skip rfl (Sub.skip rfl (Sub.skip rfl (Sub.skip rfl (Sub.skip rfl (Sub.skip rfl (Sub.skip rfl (Sub.skip rfl (Sub.skip rfl (Sub.skip rfl (Sub.skip rfl (Sub.skip rfl (Sub.skip rfl (Sub.skip rfl (Sub.skip rfl (Sub.skip rfl (Sub.skip rfl (Sub.skip rfl (Sub.skip rfl (Sub.skip rfl (Sub.skip rfl (Ab5 _))))))))))))))))))))))))))))))))))))))))))))))))))))))))))))) (.cons .here rfl (.cons .here rfl (.cons .here rfl (.cons .here rfl (.cons .here rfl (.cons .here rfl (.cons .here rfl (.cons .here rfl (.cons .here rfl (.cons .here rfl .nil))))))))))
    refine Ac8 rfl (New.alloc Ae3) rfl rfl rfl (fun b13 => (Aa0 (.cons (.there .here) rfl (.cons (.there .here) rfl (.cons (.there .here) rfl (.cons (.there .here) rfl (.cons (.there .here) rfl (.cons (.there .here) rfl (.cons (.there .here) rfl (.cons (.there .here) rfl .nil)))))))) (.cons .here rfl (.cons .here rfl (.cons .here rfl (.cons .here rfl (.cons .here rfl (.cons .here rfl (.cons .here rfl (.cons .here rfl .nil)))))))) rfl ?_))
    refine zA 23 ?_
    refine Ac8 rfl (New.buildSlice (parts := [(0, .tmp 91)]) rfl Aw8 Ae3 rfl rfl rfl rfl) rfl rfl rfl (fun b92 => (Aa0 (.cons .here rfl (.cons (.there .here) rfl (.cons (.there .here) rfl (.cons (.there .here) rfl (.cons (.there .here) rfl (.cons (.there .here) rfl (.cons (.there .here) rfl (.cons (.there .here) rfl (.cons (.there .here) rfl .nil))))))))) (.cons (.there .here) rfl (.cons (.there .here) rfl (.cons (.there .here) rfl (.cons (.there .here) rfl (.cons (.there .here) rfl (.cons (.there .here) rfl (.cons (.there .here) rfl (.cons (.there .here) rfl .nil)))))))) rfl ?_))
    refine zA 24 ?_
    refine Ab4 rfl (zF rfl Av6) rfl rfl rfl (fun w hm => Af7 (_, _) [(_, _)] _ _ _ _ w (Sl.one (hm.at (.head _)) rfl) (by simp)) (Aa0 (.cons .here rfl (.cons (.there .here) rfl (.cons (.there .here) rfl (.cons (.there .here) rfl (.cons (.there .here) rfl (.cons (.there .here) rfl (.cons (.there .here) rfl (.cons (.there .here) rfl (.cons (.there .here) rfl .nil))))))))) (.cons .here rfl (.cons .here rfl (.cons .here rfl (.cons .here rfl (.cons .here rfl (.cons .here rfl (.cons .here rfl (.cons .here rfl (.cons .here rfl .nil))))))))) rfl ?_)
    refine zw 25 ?_
    refine zw 26 ?_
    refine zw 27 ?_
    refine zA 29 ?_
    refine Ab9 rfl (Sto.store rfl rfl (.there .here) Ah6 rfl rfl) rfl rfl (Aa0 (.cons .here rfl (.cons (.there .here) rfl (.cons (.there .here) rfl (.cons (.there .here) rfl (.cons (.there .here) rfl (.cons (.there .here) rfl (.cons (.there .here) rfl (.cons (.there .here) rfl (.cons (.there .here) rfl .nil))))))))) (.cons .here rfl (.cons .here rfl (.cons .here rfl (.cons .here rfl (.cons .here rfl (.cons .here rfl (.cons .here rfl (.cons .here rfl (.cons .here rfl .nil))))))))) rfl ?_)
    refine zt ?_
    refine zp 30 ?_
    refine zd ?_
    refine Ae2 ?_
    exact Ae7 b92 b13 (zS 14 rfl (zS 13 rfl (zS 95 rfl (zS 94 rfl (zS 68 rfl (zS 93 rfl (zS 92 rfl (zS 91 rfl (zS 90 rfl (zS 89 rfl (zS 88 rfl (zS 87 rfl (zS 86 rfl (zS 85 rfl (zS 84 rfl (zS 83 rfl (zS 82 rfl (zS 81 rfl (zS 80 rfl (zS 79 rfl (zS 78 rfl (zS 77 rfl (zS 76 rfl (zS 75 rfl (zS 74 rfl (zS 73 rfl (zS 72 rfl (zS 71 rfl (zS 70 rfl (zS 69 rfl (Sub.skip rfl (Sub.skip rfl (Sub.skip rfl (Sub.skip rfl (Sub.skip rfl (Sub.skip rfl (Sub.skip rfl (Sub.skip rfl (Sub.skip rfl (Sub.skip rfl (Sub.skip rfl (Sub.skip rfl (Sub.skip rfl (Sub.skip rfl (Sub.skip rfl (Sub.skip rfl (Sub.skip rfl (Sub.skip rfl (Sub.skip rfl (Sub.skip rfl (Sub.skip rfl (Sub.skip rfl (Sub.skip rfl (Sub.skip rfl (Sub.skip rfl (Sub.skip rfl (Sub.skip rfl (Sub.skip rfl (Sub.skip rfl (Sub.skip rfl (Ab5 _))))))))))))))))))))))))))))))))))))))))))))))))))))))))))))) (.cons (.there .here) rfl (.cons .here rfl (.cons .here rfl (.cons .here rfl (.cons .here rfl (.cons .here rfl (.cons .here rfl (.cons .here rfl (.cons .here rfl (.cons .here rfl .nil))))))))))
   refine J2.out (fun b92 b13 => ?_)
   refine su ?_
   refine zc (zF rfl BC0) (fun w hm => Aw6 (_, _) w) ?_
   refine Aa9 (Sto.store rfl rfl (.there (.there (.there (.there (.there (.there (.there (.there .here)))))))) Ad7 rfl rfl) rfl rfl ?_
   refine Aa9 (Sto.store rfl rfl (.there (.there (.there (.there (.there (.there (.there .here))))))) Ah4 rfl rfl) rfl rfl ?_
   refine su ?_
   exact Ah3 Ah8 Ak9 (.r2 rfl (.agg rfl (.tail _ (.tail _ (.tail _ (.tail _ (.tail _ (.tail _ (.tail _ (.tail _ (.head _))))))))) Ad7 rfl) (.one rfl (.tail _ (.tail _ (.tail _ (.tail _ (.tail _ (.tail _ (.tail _ (.head _)))))))) Ah4 rfl)) (by simp [distX, ha18, Ae6 hk ht, ok38, c0', b2v, c1']; exact ⟨rfl, rfl⟩)
  intro c1'
  refine RunC.skip ?_
  refine RunE.next ?_
  refine RunC.seq ?_
  apply Aq2 (J := J2 _ _ _ _ _ _) 30 Al3 (.cons .here rfl (.cons .here rfl (.cons .here rfl (.cons .here rfl (.cons .here rfl (.cons .here rfl (.cons .here rfl (.cons .here rfl .nil))))))))
  ·refine zw 0 ?_
   refine zw 1 ?_
   refine zw 2 ?_
   refine zw 3 ?_
   refine zw 4 ?_
   refine zw 5 ?_
   refine zw 6 ?_
   refine zw 7 ?_
   refine zw 8 ?_
   refine zw 9 ?_
   refine zv 10 rfl (Val.build (parts := [(0, .tmp 73), (1, .tmp 78)]) rfl Ae3 Ai3 rfl) ?_
   refine zw 11 ?_
   refine zw 12 ?_
   refine zw 13 ?_
   refine zv 14 rfl (Aa8 rfl rfl Aj5 (by decide) (by decide)) ?_
   refine zw 15 ?_
   refine zv 16 rfl (Aa8 rfl rfl Aj5 (by decide) (by decide)) ?_
   refine zw 17 ?_
   refine zv 18 rfl (Val.add rfl rfl (IntWalk.i64_in _ ⟨by omega, by omega⟩)) ?_
   refine zv 19 rfl (Val.quo rfl rfl (by omega) (by omega) (IntWalk.i64_in _ (AM7 (by omega) (by omega) (by omega)))) ?_
   refine zv 20 rfl (Val.add rfl rfl (IntWalk.i64_in _ (Bm1 (by omega) (by omega) (by omega)))) ?_
   refine zw 21 ?_
   refine zv 22 rfl (Val.build (parts := [(0, .tmp 89), (1, .tmp 90)]) rfl Ae3 Ai3 rfl) ?_
   refine Ae8 (rs := [23, 28]) (by kernel_rfl) (by simp) (by kernel_rfl) (fun m hm => ?_)
   simp only [List.mem_cons, List.not_mem_nil, or_false] at hm
   rcases hm with rfl | rfl
   ·refine Ac8 rfl (New.buildSlice (parts := [(0, .tmp 91)]) rfl Aw8 Ae3 rfl rfl rfl rfl) rfl rfl rfl (fun b92 => (Aa0 (.cons .here rfl (.cons .here rfl (.cons .here rfl (.cons .here rfl (.cons .here rfl (.cons .here rfl (.cons .here rfl (.cons .here rfl (.cons .here rfl .nil))))))))) (.cons (.there .here) rfl (.cons (.there .here) rfl (.cons (.there .here) rfl (.cons (.there .here) rfl (.cons (.there .here) rfl (.cons (.there .here) rfl (.cons (.there .here) rfl (.cons (.there .here) rfl .nil)))))))) rfl ?_))
    refine Ae8 (rs := [24, 28]) (by kernel_rfl) (by simp) (by kernel_rfl) (fun m hm => ?_)
    simp only [List.mem_cons, List.not_mem_nil, or_false] at hm
    rcases hm with rfl | rfl
    ·refine Ab4 rfl (zF rfl Av6) rfl rfl rfl (fun w hm => Af7 (_, _) [(_, _)] _ _ _ _ w (Sl.one (hm.at (.head _)) rfl) (by simp)) (Aa0 (.cons .here rfl (.cons .here rfl (.cons .here rfl (.cons .here rfl (.cons .here rfl (.cons .here rfl (.cons .here rfl (.cons .here rfl (.cons .here rfl .nil))))))))) (.cons .here rfl (.cons .here rfl (.cons .here rfl (.cons .here rfl (.cons .here rfl (.cons .here rfl (.cons .here rfl (.cons .here rfl (.cons .here rfl .nil))))))))) rfl ?_)
     refine zw 25 ?_
     refine zw 26 ?_
     refine zw 27 ?_
     refine zA 28 ?_
     refine Ac8 rfl (New.alloc Ae3) rfl rfl rfl (fun b13 => (Aa0 (.cons (.there .here) rfl (.cons (.there .here) rfl (.cons (.there .here) rfl (.cons (.there .here) rfl (.cons (.there .here) rfl (.cons (.there .here) rfl (.cons (.there .here) rfl (.cons (.there .here) rfl (.cons (.there .here) rfl .nil))))))))) (.cons .here rfl (.cons .here rfl (.cons .here rfl (.cons .here rfl (.cons .here rfl (.cons .here rfl (.cons .here rfl (.cons .here rfl (.cons .here rfl .nil))))))))) rfl ?_))
     refine zA 29 ?_
     refine Ab9 rfl (Sto.store rfl rfl .here Ah6 rfl rfl) rfl rfl (Aa0 (.cons (.there .here) rfl (.cons (.there .here) rfl (.cons (.there .here) rfl (.cons (.there .here) rfl (.cons (.there .here) rfl (.cons (.there .here) rfl (.cons (.there .here) rfl (.cons (.there .here) rfl (.cons (.there .here) rfl .nil))))))))) (.cons .here rfl (.cons .here rfl (.cons .here rfl (.cons .here rfl (.cons .here rfl (.cons .here rfl (.cons .here rfl (.cons .here rfl (.cons .here rfl .nil))))))))) rfl ?_)
     refine zt ?_
     refine zp 30 ?_
     refine zd ?_
     refine Ae2 ?_
     exact Ae7 b92 b13 (Ab5 _) (Pick.refl _)
    refine Ac8 rfl (New.alloc Ae3) rfl rfl rfl (fun b13 => (Aa0 (.cons (.there .here) rfl (.cons (.there .here) rfl (.cons (.there .here) rfl (.cons (.there .here) rfl (.cons (.there .here) rfl (.cons (.there .here) rfl (.cons (.there .here) rfl (.cons (.there .here) rfl (.cons (.there .here) rfl .nil))))))))) (.cons .here rfl (.cons .here rfl (.cons .here rfl (.cons .here rfl (.cons .here rfl (.cons .here rfl (.cons .here rfl (.cons .here rfl (.cons .here rfl .nil))))))))) rfl ?_))
    refine zA 24 ?_
    refine Ab4 rfl (zF rfl Av6) rfl rfl rfl (fun w hm => Af7 (_, _) [(_, _)] _ _ _ _ w (Sl.one (hm.at (.tail _ (.head _))) rfl) (by simp)) (Aa0 (.cons (.there .here) rfl (.cons (.there .here) rfl (.cons (.there .here) rfl (.cons (.there .here) rfl (.cons (.there .here) rfl (.cons (.there .here) rfl (.cons (.there .here) rfl (.cons (.there .here) rfl (.cons (.there .here) rfl .nil))))))))) (.cons .here rfl (.cons .here rfl (.cons .here rfl (.cons .here rfl (.cons .here rfl (.cons .here rfl (.cons .here rfl (.cons .here rfl (.cons .here rfl .nil))))))))) rfl ?_)
    refine zw 25 ?_
    refine zw 26 ?_
    refine zw 27 ?_
    refine zA 29 ?_
    refine Ab9 rfl (Sto.store rfl rfl .here Ah6 rfl rfl) rfl rfl (Aa0 (.cons (.there .here) rfl (.cons (.there .here) rfl (.cons (.there .here) rfl (.cons (.there .here) rfl (.cons (.there .here) rfl (.cons (.there .here) rfl (.cons (.there .here) rfl (.cons (.there .here) rfl (.cons (.there .here) rfl .nil))))))))) (.cons .here rfl (.cons .here rfl (.cons .here rfl (.cons .here rfl (.cons .here rfl (.cons .here rfl (.cons .here rfl (.cons .here rfl (.cons .here rfl .nil))))))))) rfl ?_)
    refine zt ?_
    refine zp 30 ?_
    refine zd ?_
    refine Ae2 ?_
    exact Ae7 b92 b13 (zS 14 rfl (zS 13 rfl (zS 95 rfl (zS 94 rfl (zS 68 rfl (zS 93 rfl (zS 92 rfl (zS 91 rfl (zS 90 rfl (zS 89 rfl (zS 88 rfl (zS 87 rfl (zS 86 rfl (zS 85 rfl (zS 84 rfl (zS 83 rfl (zS 82 rfl (zS 81 rfl (zS 80 rfl (zS 79 rfl (zS 78 rfl (zS 77 rfl (zS 76 rfl (zS 75 rfl (zS 74 rfl (zS 73 rfl (zS 72 rfl (zS 71 rfl (zS 70 rfl (zS 69 rfl (Sub.skip rfl (Sub.skip rfl (Sub.skip rfl (Sub.skip rfl (Sub.skip rfl (Sub.skip rfl (Sub.skip rfl (Sub.skip rfl (Sub.skip rfl (Sub.skip rfl (Sub.skip rfl (Sub.skip rfl (Sub.skip rfl (Sub.skip rfl (Sub.skip rfl (Sub.skip rfl (Sub.skip rfl (Sub.skip rfl (Sub.skip rfl (Sub.skip rfl (Sub.skip rfl (Sub.skip rfl (Sub.skip rfl (Sub.skip rfl (Sub.skip rfl (Sub.skip rfl (Sub.skip rfl (Sub.skip rfl (Sub.skip rfl (Sub.skip rfl (Ab5 _))))))))))))))))))))))))))))))))))))))))))))))))))))))))))))) (.cons .here rfl (.cons .here rfl (.cons .here rfl (.cons .here rfl (.cons .here rfl (.cons .here rfl (.cons .here rfl (.cons .here rfl (.cons .here rfl (.cons .here rfl .nil))))))))))
   refine Ac8 rfl (New.alloc Ae3) rfl rfl rfl (fun b13 => (Aa0 (.cons (.there .here) rfl (.cons (.there .here) rfl (.cons (.there .here) rfl (.cons (.there .here) rfl (.cons (.there .here) rfl (.cons (.there .here) rfl (.cons (.there .here) rfl (.cons (.there .here) rfl .nil)))))))) (.cons .here rfl (.cons .here rfl (.cons .here rfl (.cons .here rfl (.cons .here rfl (.cons .here rfl (.cons .here rfl (.cons .here rfl .nil)))))))) rfl ?_))
   refine zA 23 ?_
   refine Ac8 rfl (New.buildSlice (parts := [(0, .tmp 91)]) rfl Aw8 Ae3 rfl rfl rfl rfl) rfl rfl rfl (fun b92 => (Aa0 (.cons .here rfl (.cons (.there .here) rfl (.cons (.there .here) rfl (.cons (.there .here) rfl (.cons (.there .here) rfl (.cons (.there .here) rfl (.cons (.there .here) rfl (.cons (.there .here) rfl (.cons (.there .here) rfl .nil))))))))) (.cons (.there .here) rfl (.cons (.there .here) rfl (.cons (.there .here) rfl (.cons (.there .here) rfl (.cons (.there .here) rfl (.cons (.there .here) rfl (.cons (.there .here) rfl (.cons (.there .here) rfl .nil)))))))) rfl ?_))
   refine zA 24 ?_
   refine Ab4 rfl (zF rfl Av6) rfl rfl rfl (fun w hm => Af7 (_, _) [(_, _)] _ _ _ _ w (Sl.one (hm.at (.head _)) rfl) (by simp)) (Aa0 (.cons .here rfl (.cons (.there .here) rfl (.cons (.there .here) rfl (.cons (.there .here) rfl (.cons (.there .here) rfl (.cons (.there .here) rfl (.cons (.there .here) rfl (.cons (.there .here) rfl (.cons (.there .here) rfl .nil))))))))) (.cons .here rfl (.cons .here rfl (.cons .here rfl (.cons .here rfl (.cons .here rfl (.cons .here rfl (.cons .here rfl (.cons .here rfl (.cons .here rfl .nil))))))))) rfl ?_)
   refine zw 25 ?_
   refine zw 26 ?_
   refine zw 27 ?_
   refine zA 29 ?_
   refine Ab9 rfl (Sto.store rfl rfl (.there .here) Ah6 rfl rfl) rfl rfl (Aa0 (.cons .here rfl (.cons (.there .here) rfl (.cons (.there .here) rfl (.cons (.there .here) rfl (.cons (.there .here) rfl (.cons (.there .here) rfl (.cons (.there .here) rfl (.cons (.there .here) rfl (.cons (.there .here) rfl .nil))))))))) (.cons .here rfl (.cons .here rfl (.cons .here rfl (.cons .here rfl (.cons .here rfl (.cons .here rfl (.cons .here rfl (.cons .here rfl (.cons .here rfl .nil))))))))) rfl ?_)
   refine zt ?_
   refine zp 30 ?_
   refine zd ?_
   refine Ae2 ?_
   exact Ae7 b92 b13 (zS 14 rfl (zS 13 rfl (zS 95 rfl (zS 94 rfl (zS 68 rfl (zS 93 rfl (zS 92 rfl (zS 91 rfl (zS 90 rfl (zS 89 rfl (zS 88 rfl (zS 87 rfl (zS 86 rfl (zS 85 rfl (zS 84 rfl (zS 83 rfl (zS 82 rfl (zS 81 rfl (zS 80 rfl (zS 79 rfl (zS 78 rfl (zS 77 rfl (zS 76 rfl (zS 75 rfl (zS 74 rfl (zS 73 rfl (zS 72 rfl (zS 71 rfl (zS 70 rfl (zS 69 rfl (Sub.skip rfl (Sub.skip rfl (Sub.skip rfl (Sub.skip rfl (Sub.skip rfl (Sub.skip rfl (Sub.skip rfl (Sub.skip rfl (Sub.skip rfl (Sub.skip rfl (Sub.skip rfl (Sub.skip rfl (Sub.skip rfl (Sub.skip rfl (Sub.skip rfl (Sub.skip rfl (Sub.skip rfl (Sub.skip rfl (Sub.skip rfl (Sub.skip rfl (Sub.skip rfl (Sub.skip rfl (Sub.skip rfl (Sub.skip rfl (Sub.skip rfl (Sub.skip rfl (Sub.skip rfl (Sub.skip rfl (Sub.skip rfl (Sub.skip rfl (Ab5 _))))))))))))))))))))))))))))))))))))))))))))))))))))))))))))) (.cons (.there .here) rfl (.cons .here rfl (.cons .here rfl (.cons .here rfl (.cons .here rfl (.cons .here rfl (.cons .here rfl (.cons .here rfl (.cons .here rfl (.cons .here rfl .nil))))))))))
  refine J2.out (fun b92 b13 => ?_)
  refine su ?_
  refine zc (zF rfl BC0) (fun w hm => Aw6 (_, _) w) ?_
  refine Aa9 (Sto.store rfl rfl (.there (.there (.there (.there (.there (.there (.there (.there .here)))))))) Ad7 rfl rfl) rfl rfl ?_
  refine Aa9 (Sto.store rfl rfl (.there (.there (.there (.there (.there (.there (.there .here))))))) Ah4 rfl rfl) rfl rfl ?_
  refine su ?_
  exact Ah3 Ah8 Ak9 (.r2 rfl (.agg rfl (.tail _ (.tail _ (.tail _ (.tail _ (.tail _ (.tail _ (.tail _ (.tail _ (.head _))))))))) Ad7 rfl) (.one rfl (.tail _ (.tail _ (.tail _ (.tail _ (.tail _ (.tail _ (.tail _ (.head _)))))))) Ah4 rfl)) (by simp [distX, ha18, Ae6 hk ht, ok38, c0', b2v, Int.not_lt.2 c1']; refine ⟨rfl, ?_⟩; show p.far = min p.far p.far; omega)
end Go.Proofs.YthbiaipagceokaaGreat
namespace Go.Proofs.YthbiaipagceokaaGreat
open Go Go.Eng Go.Pw1

theorem Al6 (n lo hi : Int) (W : World) : Calls Tryz.prog 93 #[.int .i64 n, .int .i64 lo, .int .i64 hi] W (Pure (.bool (within n lo hi)) W) := by
  refine Aa2 Tryz.func93 rfl rfl ?_
  refine st ?_
  refine Ac3 (dj := 10) (dp := 14) 4 rfl (fun g10 => by
    have g10' := g10
    try simp only [nH] at g10'
    refine sv ?_
    exact zs g10
  ) (fun g10 => by
    have g10' := g10
    try simp only [nH] at g10'
    iterate 3 refine Ac6 rfl rfl rfl ?_
    refine sv ?_
    exact zs g10
  ) ?_
  refine su ?_
  exact Aa7 (.r1 rfl (.tmp rfl)) (by first | rfl | simp)
theorem Av1 (x1 x2 x3 x4 : Int) (W : World) : Calls Tryz.prog 91 #[.agg #[.int .i64 x1, .int .i64 x2, .int .i64 x3, .int .i64 x4]] W (Pure (.agg #[.int .i64 x1, .int .i64 x2, .int .i64 x3, .int .i64 x4]) W) := by
  refine Aa2 Tryz.func91 rfl rfl ?_
  refine st ?_
  refine zn (New.box rfl) (fun b1 => ?_)
  refine zn (New.alloc Aq3) (fun b2 => ?_)
  refine lv (Val.build (parts := [(0, .tmp 4), (1, .tmp 6), (2, .tmp 8), (3, .tmp 10)]) rfl Aq3 AP4 rfl) ?_
  refine Aa9 (Sto.store rfl rfl .here Am5 rfl rfl) rfl rfl ?_
  refine su ?_
  exact Aa7 (.r1 rfl (.agg rfl (.head _) Am5 rfl)) (by first | rfl | simp)
theorem Bg1 (x1 x2 x3 x4 : Int) (W : World) : Calls Tryz.prog 61 #[.agg #[.int .i64 x1, .int .i64 x2, .int .i64 x3, .int .i64 x4]] W (Pure (.agg #[.int .i64 x1, .int .i64 x2, .int .i64 x3, .int .i64 x4]) W) := by
  refine Aa2 Tryz.func61 rfl rfl ?_
  refine st ?_
  refine zn (New.box rfl) (fun b1 => ?_)
  refine zn (New.alloc Aj8) (fun b2 => ?_)
  iterate 4 refine lu (Aa8 rfl rfl Ag6 (by decide) (by decide)) ?_
  refine lv (Val.build (parts := [(0, .tmp 4), (1, .tmp 6), (2, .tmp 8), (3, .tmp 10)]) rfl Aj8 Ay0 rfl) ?_
  refine Aa9 (Sto.store rfl rfl .here Aq5 rfl rfl) rfl rfl ?_
  refine su ?_
  exact Aa7 (.r1 rfl (.agg rfl (.head _) Aq5 rfl)) (by first | rfl | simp)
theorem AH0 (b : Int × Int) (W : World) : Calls Tryz.prog 69 #[.agg #[.int .i64 b.1, .int .i64 b.2]] W (Pure (.bool (decide (b.2 < b.1))) W) := by
  refine Aa2 Tryz.func69 rfl rfl ?_
  refine st ?_
  refine zn (New.box rfl) (fun b1 => ?_)
  exact Aa7 (.r1 rfl (.tmp rfl)) (by first | rfl | simp)
theorem AL8 (b : Int × Int) (W : World) : Calls Tryz.prog 70 #[.agg #[.int .i64 b.1, .int .i64 b.2]] W (Pure (.agg #[.int .i64 b.1, .int .i64 b.2]) W) := by
  refine Aa2 Tryz.func70 rfl rfl ?_
  refine st ?_
  refine zn (New.box rfl) (fun b1 => ?_)
  refine zn (New.alloc Ac7) (fun b2 => ?_)
  refine lv (Val.build (parts := [(0, .tmp 4), (1, .tmp 6)]) rfl Ac7 Ah7 rfl) ?_
  refine Aa9 (Sto.store rfl rfl .here Ad7 rfl rfl) rfl rfl ?_
  refine su ?_
  exact Aa7 (.r1 rfl (.agg rfl (.head _) Ad7 rfl)) (by first | rfl | simp)
theorem Bf3 (n : Int) (W : World) : Calls Tryz.prog 118 #[.int .i64 n] W (Pure (.bool (badM n)) W) := by
  refine Aa2 Tryz.func118 rfl rfl ?_
  refine st ?_
  refine zc (zF rfl Ba6) (fun w hm => Al6 _ _ _ w) ?_
  exact Aa7 (.r1 rfl (.tmp rfl)) (by first | rfl | simp)
theorem AD0 (c : Cd) (q : Option Addr) (cap : Nat) (n : Int) (b : Nat) (W : World) (hb : W.heap[b]? = some (.cells (c.cells q cap).toArray 63 (0, 0))) : Calls Tryz.prog 92 #[.int .i64 n, .pointer (some ⟨b, 0, none⟩)] W (Pure (.bool (badT c n)) W) := by
  refine Aa2 Tryz.func92 rfl rfl ?_
  refine su ?_
  refine lv (Aa4 rfl hb (by simp) Ag0 rfl) ?_
  refine zc (zF rfl Ba6) (fun w hm => Al6 _ _ _ w) ?_
  exact Aa7 (.r1 rfl (.tmp rfl)) (by first | rfl | simp)
theorem AH9 (f : Int → Bool) (l : List Int) (q : Option Addr) (b o cap : Nat) (fn : FuncId) (cp : List Value) (W : World) (hS : Sl W q b o 1 (l.map fun n => [.int .i64 n])) (hl : l.length ≤ 100000000000) (he : Enters Tryz.prog fn)
    (hf : ∀ t ∈ l, ∀ w, Mem W [] [] w → Calls Tryz.prog fn ([Value.int .i64 t] ++ cp).toArray w (Pure (.bool (f t)) w)) :
    Calls Tryz.prog 119 #[.slice q l.length cap, .func (.func fn) #[] cp.toArray] W (Pure (.int .i64 (idxF f l)) W) := by
  refine Aa2 Tryz.func119 rfl rfl ?_
  refine su ?_
  refine Af5 (l.length) (fun k q => (8, .int .i64 (k : Int)) :: q) (fun _ => _) (fun _ => []) (fun k => (l.take k).any f = false) (by simp) rfl (zE 8 rfl rfl (zS 0 rfl (zS 1 rfl (zS 7 rfl (Sub.nil _))))) .nil ?_
  intro k kN kI
  refine st ?_
  refine cn rfl ?_ ?_
  ·intro c0'
   have hk : k < l.length := by omega
   refine st ?_
   refine lv (Ab0 rfl rfl Am6 (by omega) (by omega) (hS.ptrM hk)) ?_
   refine lv (Ab8 rfl (fun w hm => hS.loadM1 (by decide) hm (by simp) Ag0 hk (v := .int .i64 l[k]) rfl)) ?_
   refine Ab3 (Ad1 rfl rfl he) rfl rfl rfl (fun w hm => hf _ (List.getElem_mem hk) w hm.drop) ?_
   refine st ?_
   refine cn rfl ?_ ?_
   ·intro c1'
    refine su ?_
    exact Aa7 (.r1 rfl (.tmp rfl)) (by rw [Ai1 f l k hk kI c1'])
   intro c1'
   refine st ?_
   refine lv (Val.add rfl rfl (IntWalk.i64_in _ ⟨by omega, by omega⟩)) ?_
   exact Ae4 (by omega) (Ah2 hk kI c1') rfl (zE 8 rfl rfl (zS 0 rfl (zS 1 rfl (zS 7 rfl (Sub.nil _))))) .nil
  intro c0'
  obtain rfl : k = l.length := by omega
  rw [List.take_length] at kI
  refine RunC.exit ?_
  refine su ?_
  refine Ab2 ?_
  refine su ?_
  exact Aa7 (.r1 rfl (.tmp rfl)) (by rw [Ag9 f l kI])
theorem Ak2 (f : Int → Bool) (l : List Int) (q : Option Addr) (b o cap : Nat) (fn : FuncId) (cp : List Value) (W : World) (hS : Sl W q b o 1 (l.map fun n => [.int .i64 n])) (hl : l.length ≤ 100000000000) (he : Enters Tryz.prog fn)
    (hf : ∀ t ∈ l, ∀ w, Mem W [] [] w → Calls Tryz.prog fn ([Value.int .i64 t] ++ cp).toArray w (Pure (.bool (f t)) w)) :
    Calls Tryz.prog 94 #[.slice q l.length cap, .func (.func fn) #[] cp.toArray] W (Pure (.bool (l.any f)) W) := by
  refine Aa2 Tryz.func94 rfl rfl ?_
  refine st ?_
  refine zc (zF rfl BV8) (fun w hm => AH9 f l q b o cap fn cp w (hS.mono (by decide) hm (by simp)) hl he (fun t ht w2 hm2 => hf t ht w2 ((hm.drop).pass hm2))) ?_
  exact Aa7 (.r1 rfl (.tmp rfl)) (by rw [← Ai7])
theorem AH1 (c : Cd) (q : Option Addr) (b o cap : Nat) (W : World) (hS : Sl W q b o 9 (c.p.things.map Th.cells)) (hl : c.p.things.length ≤ 100000000000) :
    Calls Tryz.prog 90 #[c.v q cap] W (Pure (.tuple #[.bool (cardIs c), .int .i64 (powerX c.p).2]) W) := by
  refine Aa2 Tryz.func90 rfl rfl ?_
  refine st ?_
  refine zn (New.box rfl) (fun b1 => ?_)
  refine zc (zF rfl BW0) (fun w hm => Bh9 c.p q b o cap w (hS.mono (by decide) hm (by simp)) hl) ?_
  refine zn (New.alloc Ac7) (fun b4 => ?_)
  refine Aa9 (Sto.store rfl rfl .here Ad7 rfl rfl) rfl rfl ?_
  refine su ?_
  refine zc (zF rfl Ba6) (fun w hm => Al6 _ _ _ w) ?_
  refine Ac3 (dj := 18) (dp := 22) 4 rfl (fun g18 => by
    have g18' := g18
    try simp only [nH] at g18'
    refine su ?_
    refine Ab3 (zF rfl Ba6) rfl rfl rfl (fun w hm => Al6 _ _ _ w) ?_
    refine sv ?_
    exact zs g18
  ) (fun g18 => by
    have g18' := g18
    try simp only [nH] at g18'
    iterate 3 refine Ac6 rfl rfl rfl ?_
    refine sv ?_
    exact zs g18
  ) ?_
  refine st ?_
  refine Ac3 (dj := 23) (dp := 27) 4 rfl (fun g23 => by
    have g23' := g23
    try simp only [nH] at g23'
    refine su ?_
    refine Ab3 (zF rfl Ba6) rfl rfl rfl (fun w hm => Al6 _ _ _ w) ?_
    refine sv ?_
    exact zs g23
  ) (fun g23 => by
    have g23' := g23
    try simp only [nH] at g23'
    iterate 3 refine Ac6 rfl rfl rfl ?_
    refine sv ?_
    exact zs g23
  ) ?_
  refine su ?_
  refine Ac3 (dj := 32) (dp := 40) 8 rfl (fun g32 => by
    have g32' := g32
    try simp only [nH] at g32'
    refine lv (Val.fieldAddr rfl AI4) ?_
    refine lv (Val.fieldAddr rfl Aj3) ?_
    refine lv (Aa3 rfl (.tail _ (.head _)) Ag0 rfl) ?_
    refine lv (Val.fieldAddr rfl AI4) ?_
    refine lv (Val.fieldAddr rfl Ah5) ?_
    refine Aa1 (Aa3 rfl (.tail _ (.head _)) Ag0 rfl) rfl rfl rfl ?_
    refine sv ?_
    exact zs g32
  ) (fun g32 => by
    have g32' := g32
    try simp only [nH] at g32'
    iterate 7 refine Ac6 rfl rfl rfl ?_
    refine sv ?_
    exact zs g32
  ) ?_
  refine st ?_
  refine Ac3 (dj := 41) (dp := 46) 5 rfl (fun g41 => by
    have g41' := g41
    try simp only [nH] at g41'
    refine lv (Val.fieldAddr rfl AI4) ?_
    refine lv (Val.fieldAddr rfl Ah5) ?_
    refine Aa1 (Aa3 rfl (.tail _ (.head _)) Ag0 rfl) rfl rfl rfl ?_
    refine sv ?_
    exact zs g41
  ) (fun g41 => by
    have g41' := g41
    try simp only [nH] at g41'
    iterate 4 refine Ac6 rfl rfl rfl ?_
    refine sv ?_
    exact zs g41
  ) ?_
  refine st ?_
  refine Ac3 (dj := 49) (dp := 51) 2 rfl (fun g49 => by
    have g49' := g49
    try simp only [nH] at g49'
    refine sv ?_
    exact zs g49
  ) (fun g49 => by
    have g49' := g49
    try simp only [nH] at g49'
    refine Ac6 rfl rfl rfl ?_
    refine sv ?_
    exact zs g49
  ) ?_
  refine st ?_
  refine Ac3 (dj := 52) (dp := 54) 2 rfl (fun g52 => by
    have g52' := g52
    try simp only [nH] at g52'
    refine sv ?_
    exact zs g52
  ) (fun g52 => by
    have g52' := g52
    try simp only [nH] at g52'
    refine Ac6 rfl rfl rfl ?_
    refine sv ?_
    exact zs g52
  ) ?_
  refine st ?_
  refine Ac3 (dj := 55) (dp := 68) 13 rfl (fun g55 => by
    have g55' := g55
    try simp only [nH] at g55'
    refine su ?_
    refine zn (New.buildSlice (parts := [(0, .tmp 57), (1, .tmp 59), (2, .tmp 61), (3, .tmp 63)]) rfl Am6 Az7 rfl rfl rfl rfl) (fun b64 => ?_)
    refine Ab3 (zF rfl BB0) rfl rfl rfl (fun w hm => Ak2 badM [c.prism, c.squeeze, c.front, c.deep] (some ⟨b64, 0, none⟩) b64 0 4 118 [] w (Sl.row1 (hm.at (.head _))) (by simp) BV9 (fun n _ w2 _ => Bf3 n w2)) ?_
    refine sv ?_
    exact Ac2 (Sub.cons rfl (Sub.skip rfl (Sub.skip rfl (Sub.skip rfl (Sub.skip rfl (Sub.skip rfl (Sub.skip rfl (Sub.skip rfl (Sub.skip rfl (Sub.skip rfl (Sub.skip rfl (Sub.skip rfl (Sub.skip rfl (Sub.skip rfl (Ad8 rfl (by rw [g55]) (Ab5 _)))))))))))))))) (.cons _ (List.Sublist.refl _))
  ) (fun g55 => by
    have g55' := g55
    try simp only [nH] at g55'
    iterate 12 refine Ac6 rfl rfl rfl ?_
    refine sv ?_
    exact zs g55
  ) ?_
  refine su ?_
  exact Aa7 (.r2 rfl (.tmp rfl) (.tmp rfl)) (by simp [cardIs, sizesM, eyesM, Bool.and_assoc])
theorem BH0 (p : Pr) (k : Nat) : mIdx (entsV (seenK p k)) (k : Int) = none := AD3 fun e he => by
  obtain ⟨x, hx, rfl⟩ := List.mem_map.1 he
  obtain ⟨j, rfl, hj, _⟩ := AI1 p k x hx
  simp only
  omega
theorem AA1 (c : Cd) (l : List Tr) (k : Int) (hop : openM c l = k) (hk : k ≠ 0) (q : Option Addr) (b o cap : Nat) (q2 : Option Addr) (b2 o2 cap2 : Nat) (W : World) (hS : Sl W q b o 9 (c.p.things.map Th.cells)) (hl : c.p.things.length ≤ 100000000000)
    (hL : Sl W q2 b2 o2 4 (l.map Tr.cells)) (hl2 : l.length ≤ 100000) : Calls Tryz.prog 59 #[c.v q cap, .slice q2 l.length cap2] W (Pure (.tuple #[.pointer none, .int .i64 k]) W) := by
  refine Aa2 Tryz.func59 rfl rfl ?_
  refine st ?_
  refine zn (New.box rfl) (fun b2 => ?_)
  refine zc (zF rfl BO1) (fun w hm => AH1 c q b o cap w (hS.mono (by decide) hm (by simp)) hl) ?_
  refine cn rfl ?_ ?_
  ·intro c0'
   refine su ?_
   exact Aa7 (.r2 rfl (.tmp rfl) (.tmp rfl)) (by rw [← hop]; simp [openM, c0'])
  intro c0'
  have hci := AE8 c0'
  have k2 := hci.1.c2
  refine su ?_
  refine Af5 (l.length) (fun k_ q => (27, .int .i64 (k_ : Int)) :: q) (fun _ => _) (fun _ => []) (fun k_ => (l.take k_).all (trIs c) = true) (by simp) rfl (zE 27 rfl rfl (zS 2 rfl (zS 4 rfl (zS 5 rfl (zS 7 rfl (zS 25 rfl (zS 26 rfl (Sub.nil _)))))))) (.cons .here rfl .nil) ?_
  intro k_ k_N k_I
  refine st ?_
  refine cn rfl ?_ ?_
  ·intro c1'
   have hkl : k_ < l.length := by omega
   obtain ⟨t, ht⟩ : ∃ t, l[k_] = t := ⟨_, rfl⟩
   refine st ?_
   refine lv (Ab0 rfl rfl AW8 (by omega) (by omega) (hL.ptrM hkl)) ?_
   refine lv (Ab8 rfl (fun w hm => hL.loadX (by decide) hm (by simp) Aq5 hkl ht)) ?_
   refine zn (New.alloc Aj8) (fun b9 => ?_)
   refine Aa9 (Sto.store rfl rfl .here Aq5 rfl rfl) rfl rfl ?_
   refine su ?_
   refine zc (zF rfl BB1) (fun w hm => Av1 _ _ _ _ w) ?_
   refine zn (New.alloc Aq3) (fun b10 => ?_)
   refine Aa9 (Sto.store rfl rfl .here Am5 rfl rfl) rfl rfl ?_
   refine st ?_
   refine lv (Ar3 rfl Ag6) ?_
   refine zc (zF rfl BB0) (fun w hm => Ak2 (badT c) [t.ll, t.lr, t.rl, t.rr] (some ⟨b10, 0, none⟩) b10 0 4 92 [_] w (Sl.row1 (hm.at (.head _))) (by simp) BO0 (fun n _ w2 hm2 => AD0 c q cap n _ w2 (hm2.old_at (hm.at (.tail _ (.tail _ (.head _)))) (by simp)))) ?_
   refine Ad3 (dj := 37) (dp := 49) 12 rfl (fun g37 => by
     have g37' := g37
     try simp only [nH] at g37'
     obtain ⟨t1, t2, t3, t4, t5, t6, t7, t8⟩ := BD1 g37'
     refine lu (Aa8 rfl rfl Ag6 (by decide) (by decide)) ?_
     refine lu (Aa8 rfl rfl Ag6 (by decide) (by decide)) ?_
     refine lv (Val.add rfl rfl (IntWalk.i64_in _ ⟨by omega, by omega⟩)) ?_
     refine lu (Aa8 rfl rfl Ag6 (by decide) (by decide)) ?_
     refine lu (Aa8 rfl rfl Ag6 (by decide) (by decide)) ?_
     refine Aa1 (Val.add rfl rfl (IntWalk.i64_in _ ⟨by omega, by omega⟩)) rfl rfl rfl ?_
     refine sv ?_
     exact zs g37
   ) (fun g37 => by
     have g37' := g37
     try simp only [nH] at g37'
     iterate 11 refine Ac6 rfl rfl rfl ?_
     refine sv ?_
     exact zs g37
   ) ?_
   refine st ?_
   refine cn rfl ?_ ?_
   ·intro c2'
    have htr : trIs c t = false := by (first | (simp [trIs] at c2' ⊢; grind) | simp_all [trIs])
    refine su ?_
    exact Aa7 (.r2 rfl (.tmp rfl) (.tmp rfl)) (by rw [← hop]; simp [openM, c0', BY6 (f := trIs c) hkl (by rw [ht]; exact htr)])
   intro c2'
   have htr : trIs c t = true := by simp_all [trIs]
   refine st ?_
   refine lv (Val.add rfl rfl (IntWalk.i64_in _ ⟨by omega, by omega⟩)) ?_
   exact Ae4 (by omega) (BL7 hkl k_I (by rw [ht]; exact htr)) rfl (zE 27 rfl rfl (zS 2 rfl (zS 4 rfl (zS 5 rfl (zS 7 rfl (zS 25 rfl (zS 26 rfl (Sub.nil _)))))))) (.cons (.there (.there .here)) rfl .nil)
  intro c1'
  obtain rfl : k_ = l.length := by omega
  rw [List.take_length] at k_I
  refine RunC.exit ?_
  refine su ?_
  refine Ab2 ?_
  refine RunE.next ?_
  refine RunC.seq ?_
  refine csr ?_
  refine vp rfl rfl rfl rfl ?_
  refine vp rfl rfl rfl rfl ?_
  refine nnx ?_
  have h2k : (powerX c.p).2 = k := by rw [← hop]; simp [openM, c0', k_I]
  refine RunC.cond rfl ?_ (fun h => absurd h (by simp [h2k, hk]))
  intro c3
  clear c3
  refine su ?_
  exact Aa7 (.r2 rfl (.tmp rfl) (.tmp rfl)) (by rw [← hop]; simp [openM, c0', k_I])
abbrev cdO (c : Cd) (q : Option Addr) (cap m : Nat) : Obj := .cells (cdCells c q cap m).toArray 169 (0, 0)
theorem AL6 (c : Cd) (l : List Tr) (h : openM c l = 0) (q : Option Addr) (b o cap : Nat) (q2 : Option Addr) (b2 o2 cap2 : Nat) (W : World) (hS : Sl W q b o 9 (c.p.things.map Th.cells)) (hl : c.p.things.length ≤ 100000000000)
    (hL : Sl W q2 b2 o2 4 (l.map Tr.cells)) (hl2 : l.length ≤ 100000) : Calls Tryz.prog 59 #[c.v q cap, .slice q2 l.length cap2] W
    (News (fun b : Nat × Nat => .tuple #[.pointer (some ⟨b.1, 0, none⟩), .int .i64 0]) (fun b => [(b.1, cdO c q cap b.2), (b.2, mapO (mEnts c.p))]) W) := by
  obtain ⟨h1, h2, h3⟩ := AT4 h
  have hci := AE8 h1
  have k2 := hci.1.c2
  refine Aa2 Tryz.func59 rfl rfl ?_
  refine st ?_
  refine zn (New.box rfl) (fun b2 => ?_)
  refine zc (zF rfl BO1) (fun w hm => AH1 c q b o cap w (hS.mono (by decide) hm (by simp)) hl) ?_
  refine RunC.cond rfl (fun h => absurd h (by simp [h1])) ?_
  intro c0
  clear c0
  refine su ?_
  refine Af5 (l.length) (fun k_ q => (27, .int .i64 (k_ : Int)) :: q) (fun _ => _) (fun _ => []) (fun _ => True) trivial rfl (zE 27 rfl rfl (zS 2 rfl (zS 4 rfl (zS 5 rfl (zS 7 rfl (zS 25 rfl (zS 26 rfl (Sub.nil _)))))))) (.cons .here rfl .nil) ?_
  intro k_ k_N k_I
  clear k_I
  refine st ?_
  refine cn rfl ?_ ?_
  ·intro c1'
   have hkl : k_ < l.length := by omega
   obtain ⟨t, ht⟩ : ∃ t, l[k_] = t := ⟨_, rfl⟩
   have htr : trIs c t = true := by rw [← ht]; exact List.all_eq_true.1 h2 _ (List.getElem_mem hkl)
   obtain ⟨⟨t1, t2, t3, t4, t5, t6, t7, t8⟩, t9⟩ := AS7 htr
   refine st ?_
   refine lv (Ab0 rfl rfl AW8 (by omega) (by omega) (hL.ptrM hkl)) ?_
   refine lv (Ab8 rfl (fun w hm => hL.loadX (by decide) hm (by simp) Aq5 hkl ht)) ?_
   refine zn (New.alloc Aj8) (fun b9 => ?_)
   refine Aa9 (Sto.store rfl rfl .here Aq5 rfl rfl) rfl rfl ?_
   refine su ?_
   refine zc (zF rfl BB1) (fun w hm => Av1 _ _ _ _ w) ?_
   refine zn (New.alloc Aq3) (fun b10 => ?_)
   refine Aa9 (Sto.store rfl rfl .here Am5 rfl rfl) rfl rfl ?_
   refine st ?_
   refine lv (Ar3 rfl Ag6) ?_
   refine zc (zF rfl BB0) (fun w hm => Ak2 (badT c) [t.ll, t.lr, t.rl, t.rr] (some ⟨b10, 0, none⟩) b10 0 4 92 [_] w (Sl.row1 (hm.at (.head _))) (by simp) BO0 (fun n _ w2 hm2 => AD0 c q cap n _ w2 (hm2.old_at (hm.at (.tail _ (.tail _ (.head _)))) (by simp)))) ?_
   refine Ad3 (dj := 37) (dp := 49) 12 rfl (fun g37 => by
     have g37' := g37
     try simp only [nH] at g37'
     refine lu (Aa8 rfl rfl Ag6 (by decide) (by decide)) ?_
     refine lu (Aa8 rfl rfl Ag6 (by decide) (by decide)) ?_
     refine lv (Val.add rfl rfl (IntWalk.i64_in _ ⟨by omega, by omega⟩)) ?_
     refine lu (Aa8 rfl rfl Ag6 (by decide) (by decide)) ?_
     refine lu (Aa8 rfl rfl Ag6 (by decide) (by decide)) ?_
     refine Aa1 (Val.add rfl rfl (IntWalk.i64_in _ ⟨by omega, by omega⟩)) rfl rfl rfl ?_
     refine sv ?_
     exact zs g37
   ) (fun g37 => by
     have g37' := g37
     try simp only [nH] at g37'
     iterate 11 refine Ac6 rfl rfl rfl ?_
     refine sv ?_
     exact zs g37
   ) ?_
   refine st ?_
   refine RunC.cond rfl (fun h => absurd h (by simp_all [trIs])) ?_
   intro c2
   clear c2
   refine st ?_
   refine lv (Val.add rfl rfl (IntWalk.i64_in _ ⟨by omega, by omega⟩)) ?_
   exact Ae4 (by omega) trivial rfl (zE 27 rfl rfl (zS 2 rfl (zS 4 rfl (zS 5 rfl (zS 7 rfl (zS 25 rfl (zS 26 rfl (Sub.nil _)))))))) (.cons (.there (.there .here)) rfl .nil)
  intro c1'
  obtain rfl : k_ = l.length := by omega
  refine RunC.exit ?_
  refine su ?_
  refine Ab2 ?_
  refine st ?_
  refine RunC.cond rfl (fun h => absurd h (by simp [h3])) ?_
  intro c3
  clear c3
  refine su ?_
  refine zn New.makeMap (fun b55 => ?_)
  refine lv (Val.build (parts := [(0, .tmp 54), (1, .tmp 55)]) rfl BE8 Bp1 rfl) ?_
  refine zn (New.box rfl) (fun b57 => ?_)
  refine Af5 (c.p.things.length) (fun k q => (62, .int .i64 (k : Int)) :: q) (fun _ => _) (fun k => [(b55, mapO (entsV (seenK c.p k)))]) (fun _ => True) trivial rfl (zE 62 rfl rfl (zS 2 rfl (zS 12 rfl (zS 61 rfl (Sub.nil _))))) (.cons (.there .here) rfl (.cons .here rfl (.cons .here rfl .nil))) ?_
  intro k kN kI
  clear kI
  refine st ?_
  refine cn rfl ?_ ?_
  ·intro c4'
   have hk : k < c.p.things.length := by omega
   refine su ?_
   refine zc (zF rfl Ca6) (fun w hm => BD5 c.p _ q b o cap w (hS.mono (by decide) hm (by simp)) hl) ?_
   refine cn rfl ?_ ?_
   ·intro c5'
    refine su ?_
    refine zc (zF rfl Ca5) (fun w hm => Bh4 c.p _ q b o cap w (hS.mono (by decide) hm (by simp)) hl) ?_
    refine zn (New.alloc Ac7) (fun b16 => ?_)
    refine Aa9 (Sto.store rfl rfl .here Ad7 rfl rfl) rfl rfl ?_
    refine st ?_
    refine Ae5 10 Al3 (.cons .here rfl (.cons (.there .here) rfl (.cons (.there .here) rfl .nil))) ?_
    refine zw 0 ?_
    refine zw 1 ?_
    refine zw 2 ?_
    refine zw 3 ?_
    refine zw 4 ?_
    refine zw 5 ?_
    refine zw 6 ?_
    refine zw 7 ?_
    refine zw 8 ?_
    refine zv 9 rfl (Val.build (parts := [(0, .tmp 87), (1, .tmp 89)]) rfl Ah1 Ak7 rfl) ?_
    refine zt ?_
    refine zB 10 ?_
    refine Ab9 rfl (Bs0 rfl rfl rfl (.there .here) Au3 (BH0 c.p k)) rfl rfl (Ab1 ?_)
    refine zd ?_
    refine st ?_
    refine lv (Val.add rfl rfl (IntWalk.i64_in _ ⟨by omega, by omega⟩)) ?_
    exact Ae4 (by omega) trivial rfl (zE 62 rfl rfl (zS 2 rfl (zS 12 rfl (zS 61 rfl (Sub.nil _))))) (.cons (.there .here) (by first | (rw [AC8 c5']; simp [entsV]; rfl) | (rw [AC8 c5']; simp [entsV]) | (rw [Bj1 c5'])) (.cons (.there .here) rfl (.cons (.there .here) rfl .nil)))
   intro c5'
   refine st ?_
   refine lv (Val.add rfl rfl (IntWalk.i64_in _ ⟨by omega, by omega⟩)) ?_
   exact Ae4 (by omega) trivial rfl (zE 62 rfl rfl (zS 2 rfl (zS 12 rfl (zS 61 rfl (Sub.nil _))))) (.cons .here (by first | (rw [AC8 c5']; simp [entsV]; rfl) | (rw [AC8 c5']; simp [entsV]) | (rw [Bj1 c5'])) (.cons .here rfl (.cons .here rfl .nil)))
  intro c4'
  obtain rfl : k = c.p.things.length := by omega
  refine RunC.exit ?_
  refine su ?_
  refine Ab2 ?_
  refine su ?_
  exact RunE.ret (chg := []) (.r2 rfl (.tmp rfl) (.tmp rfl)) (fun _ hm => ⟨(b57, b55), rfl, hm.pick (.cons (.there .here) rfl (.cons .here rfl .nil))⟩)
end Go.Proofs.YthbiaipagceokaaGreat
namespace Go.Pw1
open Go Go.Eng
theorem Aw4 {c : Cd} (hc : c.Ok) {x : Int} (h : -80 ≤ x ∧ x ≤ 80) : -8000 ≤ c.step * x ∧ c.step * x ≤ 8000 := by
  have h1 := Bw9 (a := x) (b := c.step) (A := 80) (B := 100) h (by have := hc.s1; omega) hc.s2
  rw [Int.mul_comm]
  omega
theorem Bv0 {p : Pr} (hp : p.Ok) (n : Int) : (-8000 ≤ (shiftX p n).1.1 ∧ (shiftX p n).1.1 ≤ 8000) ∧ (-8000 ≤ (shiftX p n).1.2 ∧ (shiftX p n).1.2 ≤ 8000) := by
  unfold shiftX
  cases h : openX p [n] with
  | error k => simp
  | ok u =>
    obtain ⟨k, rfl, hk⟩ := Ay4 h (List.mem_singleton.2 rfl)
    obtain ⟨t, ht⟩ : ∃ t, p.things[k] = t := ⟨_, rfl⟩
    simp only [Ae6 hk ht]
    exact Bj0 (ht ▸ (hp.ths _ (List.getElem_mem hk)).1)
end Go.Pw1
namespace Go.Proofs.YthbiaipagceokaaGreat
open Go Go.Eng Go.Pw1

/-- A card that is looked at lies there. -/
structure CdAt (c : Cd) (q : Option Addr) (b o cap bc bm : Nat) (W : World) : Prop where
  v : W.heap[bc]? = some (cdO c q cap bm)
  m : W.heap[bm]? = some (mapO (mEnts c.p))
  s : Sl W q b o 9 (c.p.things.map Th.cells)
  ok : c.Ok
  pk : c.p.Ok
theorem CdAt.mem {c : Cd} {q : Option Addr} {b o cap bc bm : Nat} {W w : World} {news : Blks} (h : CdAt c q b o cap bc bm W) (hm : Mem W [] news w) : CdAt c q b o cap bc bm w := ⟨hm.old_at h.v (by simp), hm.old_at h.m (by simp), h.s.mono (by decide) hm (by simp), h.ok, h.pk⟩
theorem Aw1 (c : Cd) (hc : c.Ok) (t : Tr) (ht : t.Ok c.cuts) (q : Option Addr) (cap bc bm : Nat) (W : World) (h : W.heap[bc]? = some (cdO c q cap bm)) : Calls Tryz.prog 131 #[mtV bc t] W (Pure (.int .i64 (windowM c t)) W) := by
  obtain ⟨t1, t2, t3, t4, t5, t6, t7, t8⟩ := ht
  have k2 := hc.c2
  have hw := Aw4 hc (x := t.ll - t.rl) (by omega)
  refine Aa2 Tryz.func131 rfl rfl ?_
  refine st ?_
  refine zn (New.box rfl) (fun b1 => ?_)
  refine Ae5 13 Al3 (.cons .here rfl .nil) ?_
  refine zw 0 ?_
  refine zw 1 ?_
  refine zw 2 ?_
  refine zw 3 ?_
  refine zw 4 ?_
  refine zv 5 rfl (Aa4 rfl h (by simp) Ag0 rfl) ?_
  refine zw 6 ?_
  refine zv 7 rfl (Aa8 rfl rfl Ag6 (by decide) (by decide)) ?_
  refine zw 8 ?_
  refine zw 9 ?_
  refine zv 10 rfl (Aa8 rfl rfl Ag6 (by decide) (by decide)) ?_
  refine zw 11 ?_
  refine zv 12 rfl (Af3 rfl rfl (IntWalk.i64_in _ ⟨by omega, by omega⟩)) ?_
  refine zt ?_
  refine zo 13 rfl (Val.mul rfl rfl (IntWalk.i64_in _ ⟨by omega, by omega⟩)) ?_
  refine zp 14 ?_
  refine zd ?_
  refine su ?_
  exact Aa7 (.r1 rfl (.tmp rfl)) (by first | rfl | simp)
theorem AB6 (c : Cd) (hc : c.Ok) (t : Tr) (ht : t.Ok c.cuts) (q : Option Addr) (cap bc bm : Nat) (W : World) (h : W.heap[bc]? = some (cdO c q cap bm)) : Calls Tryz.prog 132 #[mtV bc t] W (Pure (.int .i64 (apartM c t)) W) := by
  obtain ⟨t1, t2, t3, t4, t5, t6, t7, t8⟩ := ht
  have k2 := hc.c2
  have k3 := hc.h1
  have k4 := hc.h2
  have hw := Aw4 hc (x := t.lr + t.rl) (by omega)
  refine Aa2 Tryz.func132 rfl rfl ?_
  refine st ?_
  refine zn (New.box rfl) (fun b1 => ?_)
  refine Ae5 21 Al3 (.cons .here rfl .nil) ?_
  refine zw 0 ?_
  refine zw 1 ?_
  refine zw 2 ?_
  refine zw 3 ?_
  refine zw 4 ?_
  refine zv 5 rfl (Aa4 rfl h (by simp) Ag0 rfl) ?_
  refine zv 6 rfl (Val.mul rfl rfl (IntWalk.i64_in _ ⟨by omega, by omega⟩)) ?_
  refine zw 7 ?_
  refine zw 8 ?_
  refine zw 9 ?_
  refine zw 10 ?_
  refine zw 11 ?_
  refine zv 12 rfl (Aa4 rfl h (by simp) Ag0 rfl) ?_
  refine zw 13 ?_
  refine zv 14 rfl (Aa8 rfl rfl Ag6 (by decide) (by decide)) ?_
  refine zw 15 ?_
  refine zw 16 ?_
  refine zv 17 rfl (Aa8 rfl rfl Ag6 (by decide) (by decide)) ?_
  refine zw 18 ?_
  refine zv 19 rfl (Val.add rfl rfl (IntWalk.i64_in _ ⟨by omega, by omega⟩)) ?_
  refine zv 20 rfl (Val.mul rfl rfl (IntWalk.i64_in _ ⟨by omega, by omega⟩)) ?_
  refine zt ?_
  refine zo 21 rfl (Af3 rfl rfl (IntWalk.i64_in _ ⟨by omega, by omega⟩)) ?_
  refine zp 22 ?_
  refine zd ?_
  refine su ?_
  exact Aa7 (.r1 rfl (.tmp rfl)) (by first | rfl | simp)
theorem AV6 {c : Cd} (hc : c.Ok) {t : Tr} (ht : t.Ok c.cuts) : -8000 ≤ apartM c t ∧ apartM c t ≤ 16000 := by
  obtain ⟨t1, t2, t3, t4, t5, t6, t7, t8⟩ := ht
  have k2 := hc.c2
  have k3 := hc.h1
  have k4 := hc.h2
  have hw := Aw4 hc (x := t.lr + t.rl) (by omega)
  unfold apartM
  omega
theorem AJ6 {c : Cd} (hc : c.Ok) {t : Tr} (ht : t.Ok c.cuts) : -8000 ≤ windowM c t ∧ windowM c t ≤ 8000 := by
  obtain ⟨t1, t2, t3, t4, t5, t6, t7, t8⟩ := ht
  have k2 := hc.c2
  exact Aw4 hc (x := t.ll - t.rl) (by omega)
abbrev Bd8 (s : Int × Int) : Prop := (-8000 ≤ s.1 ∧ s.1 ≤ 8000) ∧ (-8000 ≤ s.2 ∧ s.2 ≤ 8000)
theorem Bq0 (c : Cd) (hc : c.Ok) (t : Tr) (ht : t.Ok c.cuts) (i : Int) (s : Int × Int) (hs : Bd8 s) (q : Option Addr) (cap bc bm : Nat) (W : World) (h : W.heap[bc]? = some (cdO c q cap bm)) :
    Calls Tryz.prog 159 #[.agg #[], mtV bc t, .int .i64 i, b2v s] W (Pure (.bool (decide (apartM c t - s.2 < c.eyes.hi - c.squeeze))) W) := by
  obtain ⟨⟨s1, s2⟩, s3, s4⟩ := hs
  have ab := AV6 hc ht
  have k1 := hc.e1
  have k2 := hc.e2
  have k3 := hc.e3
  have k4 := hc.q1
  have k5 := hc.q2
  refine Aa2 Tryz.func159 rfl rfl ?_
  refine st ?_
  refine zn (New.box rfl) (fun b4 => ?_)
  refine zn (New.box rfl) (fun b5 => ?_)
  refine zn (New.box rfl) (fun b7 => ?_)
  refine Ae5 19 Al3 (.cons .here rfl (.cons .here rfl (.cons .here rfl .nil))) ?_
  refine zw 0 ?_
  refine zw 2 ?_
  refine zw 3 ?_
  refine zw 5 ?_
  refine zw 6 ?_
  refine zw 7 ?_
  refine zw 8 ?_
  refine zw 9 ?_
  refine zw 10 ?_
  refine zv 11 rfl (Aa4 rfl h (by simp) Ag0 rfl) ?_
  refine zw 12 ?_
  refine zw 13 ?_
  refine zw 14 ?_
  refine zw 15 ?_
  refine zw 16 ?_
  refine zv 17 rfl (Aa4 rfl h (by simp) Ag0 rfl) ?_
  refine zv 18 rfl (Af3 rfl rfl (IntWalk.i64_in _ ⟨by omega, by omega⟩)) ?_
  refine zA 1 ?_
  refine Ab4 rfl (zF rfl Bf9) rfl rfl rfl (fun w hm => AB6 c hc t ht q cap bc bm w (hm.old_at h (by simp))) (Aa0 (.cons .here rfl (.cons .here rfl (.cons .here rfl .nil))) (.cons .here rfl (.cons .here rfl (.cons .here rfl .nil))) rfl ?_)
  refine zv 4 rfl (Af3 rfl rfl (IntWalk.i64_in _ ⟨by omega, by omega⟩)) ?_
  refine zt ?_
  refine zp 19 ?_
  refine zp 20 ?_
  refine zd ?_
  refine su ?_
  exact Aa7 (.r1 rfl (.tmp rfl)) (by first | rfl | simp)
theorem BA8 (c : Cd) (hc : c.Ok) (t : Tr) (ht : t.Ok c.cuts) (i : Int) (s : Int × Int) (hs : Bd8 s) (q : Option Addr) (cap bc bm : Nat) (W : World) (h : W.heap[bc]? = some (cdO c q cap bm)) :
    Calls Tryz.prog 160 #[.agg #[], mtV bc t, .int .i64 i, b2v s] W (Pure (.bool (decide (c.eyes.lo + c.prism < apartM c t - s.1))) W) := by
  obtain ⟨⟨s1, s2⟩, s3, s4⟩ := hs
  have ab := AV6 hc ht
  have k1 := hc.e1
  have k2 := hc.e2
  have k3 := hc.e3
  have k4 := hc.p1
  have k5 := hc.p2
  refine Aa2 Tryz.func160 rfl rfl ?_
  refine st ?_
  refine zn (New.box rfl) (fun b4 => ?_)
  refine zn (New.box rfl) (fun b5 => ?_)
  refine zn (New.box rfl) (fun b7 => ?_)
  refine Ae5 19 Al3 (.cons .here rfl (.cons .here rfl (.cons .here rfl .nil))) ?_
  refine zw 0 ?_
  refine zw 2 ?_
  refine zw 3 ?_
  refine zw 5 ?_
  refine zw 6 ?_
  refine zw 7 ?_
  refine zw 8 ?_
  refine zw 9 ?_
  refine zw 10 ?_
  refine zv 11 rfl (Aa4 rfl h (by simp) Ag0 rfl) ?_
  refine zw 12 ?_
  refine zw 13 ?_
  refine zw 14 ?_
  refine zw 15 ?_
  refine zw 16 ?_
  refine zv 17 rfl (Aa4 rfl h (by simp) Ag0 rfl) ?_
  refine zv 18 rfl (Val.add rfl rfl (IntWalk.i64_in _ ⟨by omega, by omega⟩)) ?_
  refine zA 1 ?_
  refine Ab4 rfl (zF rfl Bf9) rfl rfl rfl (fun w hm => AB6 c hc t ht q cap bc bm w (hm.old_at h (by simp))) (Aa0 (.cons .here rfl (.cons .here rfl (.cons .here rfl .nil))) (.cons .here rfl (.cons .here rfl (.cons .here rfl .nil))) rfl ?_)
  refine zv 4 rfl (Af3 rfl rfl (IntWalk.i64_in _ ⟨by omega, by omega⟩)) ?_
  refine zt ?_
  refine zp 19 ?_
  refine zp 20 ?_
  refine zd ?_
  refine su ?_
  exact Aa7 (.r1 rfl (.tmp rfl)) (by first | rfl | simp)
theorem Bf7 (c : Cd) (hc : c.Ok) (t : Tr) (ht : t.Ok c.cuts) (i : Int) (s : Int × Int) (hs : Bd8 s) (q : Option Addr) (cap bc bm : Nat) (W : World) (h : W.heap[bc]? = some (cdO c q cap bm)) :
    Calls Tryz.prog 161 #[.agg #[], mtV bc t, .int .i64 i, b2v s] W (Pure (.bool (decide (windowM c t + c.front < s.2))) W) := by
  obtain ⟨⟨s1, s2⟩, s3, s4⟩ := hs
  have ab := AJ6 hc ht
  have k4 := hc.f1
  have k5 := hc.f2
  refine Aa2 Tryz.func161 rfl rfl ?_
  refine st ?_
  refine zn (New.box rfl) (fun b4 => ?_)
  refine zn (New.box rfl) (fun b5 => ?_)
  refine zn (New.box rfl) (fun b7 => ?_)
  refine Ae5 11 Al3 (.cons .here rfl (.cons .here rfl (.cons .here rfl .nil))) ?_
  refine zw 0 ?_
  refine zw 1 ?_
  refine zw 2 ?_
  refine zw 4 ?_
  refine zw 5 ?_
  refine zw 6 ?_
  refine zw 7 ?_
  refine zw 8 ?_
  refine zv 9 rfl (Aa4 rfl h (by simp) Ag0 rfl) ?_
  refine zA 3 ?_
  refine Ab4 rfl (zF rfl Bg0) rfl rfl rfl (fun w hm => Aw1 c hc t ht q cap bc bm w (hm.old_at h (by simp))) (Aa0 (.cons .here rfl (.cons .here rfl (.cons .here rfl .nil))) (.cons .here rfl (.cons .here rfl (.cons .here rfl .nil))) rfl ?_)
  refine zv 10 rfl (Val.add rfl rfl (IntWalk.i64_in _ ⟨by omega, by omega⟩)) ?_
  refine zt ?_
  refine zp 11 ?_
  refine zp 12 ?_
  refine zd ?_
  refine su ?_
  exact Aa7 (.r1 rfl (.tmp rfl)) (by first | rfl | simp)
theorem AV2 (c : Cd) (hc : c.Ok) (t : Tr) (ht : t.Ok c.cuts) (i : Int) (s : Int × Int) (hs : Bd8 s) (q : Option Addr) (cap bc bm : Nat) (W : World) (h : W.heap[bc]? = some (cdO c q cap bm)) :
    Calls Tryz.prog 162 #[.agg #[], mtV bc t, .int .i64 i, b2v s] W (Pure (.bool (decide (s.1 < windowM c t - c.deep))) W) := by
  obtain ⟨⟨s1, s2⟩, s3, s4⟩ := hs
  have ab := AJ6 hc ht
  have k4 := hc.d1
  have k5 := hc.d2
  refine Aa2 Tryz.func162 rfl rfl ?_
  refine st ?_
  refine zn (New.box rfl) (fun b4 => ?_)
  refine zn (New.box rfl) (fun b5 => ?_)
  refine zn (New.box rfl) (fun b7 => ?_)
  refine Ae5 11 Al3 (.cons .here rfl (.cons .here rfl (.cons .here rfl .nil))) ?_
  refine zw 0 ?_
  refine zw 1 ?_
  refine zw 2 ?_
  refine zw 4 ?_
  refine zw 5 ?_
  refine zw 6 ?_
  refine zw 7 ?_
  refine zw 8 ?_
  refine zv 9 rfl (Aa4 rfl h (by simp) Ag0 rfl) ?_
  refine zA 3 ?_
  refine Ab4 rfl (zF rfl Bg0) rfl rfl rfl (fun w hm => Aw1 c hc t ht q cap bc bm w (hm.old_at h (by simp))) (Aa0 (.cons .here rfl (.cons .here rfl (.cons .here rfl .nil))) (.cons .here rfl (.cons .here rfl (.cons .here rfl .nil))) rfl ?_)
  refine zv 10 rfl (Af3 rfl rfl (IntWalk.i64_in _ ⟨by omega, by omega⟩)) ?_
  refine zt ?_
  refine zp 11 ?_
  refine zp 12 ?_
  refine zd ?_
  refine su ?_
  exact Aa7 (.r1 rfl (.tmp rfl)) (by first | rfl | simp)
theorem Bw7 (c : Cd) (t : Tr) (ht : t.Ok c.cuts) (k : Nat) (hk : k < c.p.things.length) (s : Int × Int) (q : Option Addr) (b o cap bc bm : Nat) (W : World) (h : CdAt c q b o cap bc bm W) :
    Calls Tryz.prog 163 #[.agg #[], mtV bc t, .int .i64 (k : Int), b2v s] W (Pure (.bool (offM c t (thingAt c.p k))) W) := by
  have hc := h.ok
  have hv := h.v
  obtain ⟨t1, t2, t3, t4, t5, t6, t7, t8⟩ := ht
  have k2 := hc.c2
  have k3 := hc.h1
  have k4 := hc.h2
  have w1 := Aw4 hc (x := t.ll) (by omega)
  have w2 := Aw4 hc (x := t.lr) (by omega)
  have w3 := Aw4 hc (x := t.rl) (by omega)
  have w4 := Aw4 hc (x := t.rr) (by omega)
  obtain ⟨x, hx⟩ : ∃ x, c.p.things[k] = x := ⟨_, rfl⟩
  rw [Ae6 hk hx]
  have hl := h.pk.len
  refine Aa2 Tryz.func163 rfl rfl ?_
  refine st ?_
  refine zn (New.box rfl) (fun b4 => ?_)
  refine zn (New.box rfl) (fun b5 => ?_)
  refine zn (New.box rfl) (fun b7 => ?_)
  refine lv (Aa4 rfl hv (by simp) AJ8 rfl) ?_
  refine lv (Ab0 rfl rfl Aw7 (by omega) (by omega) (h.s.ptrM hk)) ?_
  refine lv (Ab8 rfl (fun w hm => h.s.loadX (by decide) hm (by simp) Av7 hk hx)) ?_
  refine zn (New.alloc Av9) (fun b9 => ?_)
  refine Aa9 (Sto.store rfl rfl .here Av7 rfl rfl) rfl rfl ?_
  refine su ?_
  refine zn (New.buildSlice (parts := [(0, .tmp 25), (1, .tmp 28)]) rfl AH7 Ac7 rfl rfl rfl rfl) (fun b29 => ?_)
  refine Aq1 2 ?_
  refine st ?_
  refine RunC.cond rfl ?_ (fun h => absurd h (by decide))
  intro c0
  clear c0
  refine st ?_
  refine lu (Ak0 rfl rfl AH7 (by decide) (by decide)) ?_
  refine zn (New.alloc Ac7) (fun b11 => ?_)
  refine Aa9 (Sto.store rfl rfl .here Ad7 rfl rfl) rfl rfl ?_
  refine st ?_
  refine Ae5 41 Al3 (.cons .here rfl (.cons .here rfl (.cons .here rfl (.cons .here rfl (.cons .here rfl (.cons .here rfl .nil)))))) ?_
  refine zw 0 ?_
  refine zw 1 ?_
  refine zw 2 ?_
  refine zw 3 ?_
  refine zw 4 ?_
  refine zv 5 rfl (Aa4 rfl hv (by simp) Ag0 rfl) ?_
  refine zw 6 ?_
  refine zv 7 rfl (Val.mul rfl rfl (IntWalk.i64_in _ ⟨by omega, by omega⟩)) ?_
  refine zw 8 ?_
  refine zv 9 rfl (Aa8 rfl rfl Ag6 (by decide) (by decide)) ?_
  refine zw 10 ?_
  refine zv 11 rfl (Val.mul rfl rfl (IntWalk.i64_in _ ⟨by omega, by omega⟩)) ?_
  refine zw 12 ?_
  refine zw 13 ?_
  refine zw 14 ?_
  refine zw 15 ?_
  refine zw 16 ?_
  refine zv 17 rfl (Aa4 rfl hv (by simp) Ag0 rfl) ?_
  refine zv 18 rfl (Af3 rfl rfl (IntWalk.i64_in _ ⟨by omega, by omega⟩)) ?_
  refine zw 19 ?_
  refine zw 20 ?_
  refine zw 21 ?_
  refine zw 22 ?_
  refine zw 23 ?_
  refine zv 24 rfl (Aa4 rfl hv (by simp) Ag0 rfl) ?_
  refine zw 25 ?_
  refine zw 26 ?_
  refine zw 27 ?_
  refine zw 28 ?_
  refine zw 29 ?_
  refine zv 30 rfl (Aa4 rfl hv (by simp) Ag0 rfl) ?_
  refine zw 31 ?_
  refine zv 32 rfl (Val.mul rfl rfl (IntWalk.i64_in _ ⟨by omega, by omega⟩)) ?_
  refine zv 33 rfl (Val.add rfl rfl (IntWalk.i64_in _ ⟨by omega, by omega⟩)) ?_
  refine zw 34 ?_
  refine zv 35 rfl (Aa8 rfl rfl Ag6 (by decide) (by decide)) ?_
  refine zw 36 ?_
  refine zv 37 rfl (Val.mul rfl rfl (IntWalk.i64_in _ ⟨by omega, by omega⟩)) ?_
  refine zv 38 rfl (Af3 rfl rfl (IntWalk.i64_in _ ⟨by omega, by omega⟩)) ?_
  refine zv 39 rfl (Val.build (parts := [(0, .tmp 54), (1, .tmp 74)]) rfl Ah1 Ak7 rfl) ?_
  refine zA 40 ?_
  refine Ac8 rfl (New.alloc Ah1) rfl rfl rfl (fun b12 => (Aa0 (.cons .here rfl (.cons .here rfl (.cons .here rfl (.cons .here rfl (.cons .here rfl (.cons .here rfl (.cons .here rfl .nil))))))) (.cons (.there .here) rfl (.cons (.there .here) rfl (.cons (.there .here) rfl (.cons (.there .here) rfl (.cons (.there .here) rfl (.cons (.there .here) rfl .nil)))))) rfl ?_))
  refine zt ?_
  refine zB 41 ?_
  refine Ab9 rfl (Sto.store rfl rfl .here Ar8 rfl rfl) rfl rfl (Ab1 ?_)
  refine zd ?_
  refine su ?_
  refine Ad3 (dj := 81) (dp := 87) 6 rfl (fun g81 => by
    have g81' := g81
    try simp only [nH] at g81'
    refine lv (Val.fieldAddr rfl Ah5) ?_
    refine lv (Aa3 rfl (.tail _ (.head _)) Ag0 rfl) ?_
    refine lv (Val.fieldAddr rfl AM5) ?_
    refine Aa1 (Aa3 rfl (.head _) Ag0 rfl) rfl rfl rfl ?_
    refine sv ?_
    exact zs g81
  ) (fun g81 => by
    have g81' := g81
    try simp only [nH] at g81'
    iterate 5 refine Ac6 rfl rfl rfl ?_
    refine sv ?_
    exact zs g81
  ) ?_
  refine st ?_
  refine cn rfl ?_ ?_
  ·intro c1'
   refine su ?_
   exact Aa7 (.r1 rfl (.tmp rfl)) (by simp_all [offM])
  intro c1'
  have e0 := c1'
  refine st ?_
  refine Aa1 (Val.add rfl rfl (IntWalk.i64_in _ ⟨by decide, by decide⟩)) rfl rfl rfl ?_
  refine vp rfl rfl rfl rfl ?_
  refine RunL.nil ?_
  refine Aj2 (zS 2 rfl (zS 5 rfl (zS 8 rfl (zS 9 rfl (zS 29 rfl (zS 30 rfl (zS 31 rfl (Sub.nil _)))))))) (.cons (.there (.there .here)) rfl (.cons (.there (.there .here)) rfl (.cons (.there (.there (.there .here))) rfl .nil))) ?_
  refine Ai2 ?_
  refine st ?_
  refine RunC.cond rfl ?_ (fun h => absurd h (by decide))
  intro c0
  clear c0
  refine st ?_
  refine lu (Ak0 rfl rfl AH7 (by decide) (by decide)) ?_
  refine zn (New.alloc Ac7) (fun b11 => ?_)
  refine Aa9 (Sto.store rfl rfl .here Ad7 rfl rfl) rfl rfl ?_
  refine st ?_
  refine Ae5 41 Al3 (.cons .here rfl (.cons .here rfl (.cons .here rfl (.cons .here rfl .nil)))) ?_
  refine zw 0 ?_
  refine zw 1 ?_
  refine zw 2 ?_
  refine zw 3 ?_
  refine zw 4 ?_
  refine zv 5 rfl (Aa4 rfl hv (by simp) Ag0 rfl) ?_
  refine zw 6 ?_
  refine zv 7 rfl (Val.mul rfl rfl (IntWalk.i64_in _ ⟨by omega, by omega⟩)) ?_
  refine zw 8 ?_
  refine zv 9 rfl (Aa8 rfl rfl Ag6 (by decide) (by decide)) ?_
  refine zw 10 ?_
  refine zv 11 rfl (Val.mul rfl rfl (IntWalk.i64_in _ ⟨by omega, by omega⟩)) ?_
  refine zw 12 ?_
  refine zw 13 ?_
  refine zw 14 ?_
  refine zw 15 ?_
  refine zw 16 ?_
  refine zv 17 rfl (Aa4 rfl hv (by simp) Ag0 rfl) ?_
  refine zv 18 rfl (Af3 rfl rfl (IntWalk.i64_in _ ⟨by omega, by omega⟩)) ?_
  refine zw 19 ?_
  refine zw 20 ?_
  refine zw 21 ?_
  refine zw 22 ?_
  refine zw 23 ?_
  refine zv 24 rfl (Aa4 rfl hv (by simp) Ag0 rfl) ?_
  refine zw 25 ?_
  refine zw 26 ?_
  refine zw 27 ?_
  refine zw 28 ?_
  refine zw 29 ?_
  refine zv 30 rfl (Aa4 rfl hv (by simp) Ag0 rfl) ?_
  refine zw 31 ?_
  refine zv 32 rfl (Val.mul rfl rfl (IntWalk.i64_in _ ⟨by omega, by omega⟩)) ?_
  refine zv 33 rfl (Val.add rfl rfl (IntWalk.i64_in _ ⟨by omega, by omega⟩)) ?_
  refine zw 34 ?_
  refine zv 35 rfl (Aa8 rfl rfl Ag6 (by decide) (by decide)) ?_
  refine zw 36 ?_
  refine zv 37 rfl (Val.mul rfl rfl (IntWalk.i64_in _ ⟨by omega, by omega⟩)) ?_
  refine zv 38 rfl (Af3 rfl rfl (IntWalk.i64_in _ ⟨by omega, by omega⟩)) ?_
  refine zv 39 rfl (Val.build (parts := [(0, .tmp 54), (1, .tmp 74)]) rfl Ah1 Ak7 rfl) ?_
  refine zA 40 ?_
  refine Ac8 rfl (New.alloc Ah1) rfl rfl rfl (fun b12 => (Aa0 (.cons .here rfl (.cons .here rfl (.cons .here rfl (.cons .here rfl (.cons .here rfl .nil))))) (.cons (.there .here) rfl (.cons (.there .here) rfl (.cons (.there .here) rfl (.cons (.there .here) rfl .nil)))) rfl ?_))
  refine zt ?_
  refine zB 41 ?_
  refine Ab9 rfl (Sto.store rfl rfl .here Ar8 rfl rfl) rfl rfl (Ab1 ?_)
  refine zd ?_
  refine su ?_
  refine Ad3 (dj := 81) (dp := 87) 6 rfl (fun g81 => by
    have g81' := g81
    try simp only [nH] at g81'
    refine lv (Val.fieldAddr rfl Ah5) ?_
    refine lv (Aa3 rfl (.tail _ (.head _)) Ag0 rfl) ?_
    refine lv (Val.fieldAddr rfl AM5) ?_
    refine Aa1 (Aa3 rfl (.head _) Ag0 rfl) rfl rfl rfl ?_
    refine sv ?_
    exact zs g81
  ) (fun g81 => by
    have g81' := g81
    try simp only [nH] at g81'
    iterate 5 refine Ac6 rfl rfl rfl ?_
    refine sv ?_
    exact zs g81
  ) ?_
  refine st ?_
  refine cn rfl ?_ ?_
  ·intro c1'
   refine su ?_
   exact Aa7 (.r1 rfl (.tmp rfl)) (by simp_all [offM])
  intro c1'
  have e1 := c1'
  refine st ?_
  refine Aa1 (Val.add rfl rfl (IntWalk.i64_in _ ⟨by decide, by decide⟩)) rfl rfl rfl ?_
  refine vp rfl rfl rfl rfl ?_
  refine RunL.nil ?_
  refine Aj2 (zS 2 rfl (zS 5 rfl (zS 8 rfl (zS 9 rfl (zS 29 rfl (zS 30 rfl (zS 31 rfl (Sub.nil _)))))))) (.cons (.there (.there .here)) rfl (.cons (.there (.there .here)) rfl (.cons (.there (.there .here)) rfl .nil))) ?_
  refine Ai2 ?_
  refine st ?_
  refine RunC.cond rfl (fun h => absurd h (by decide)) ?_
  intro c0
  clear c0
  refine RunC.exit ?_
  refine su ?_
  refine Ab2 ?_
  refine su ?_
  exact Aa7 (.r1 rfl (.tmp rfl)) (by simp_all [offM])
end Go.Proofs.YthbiaipagceokaaGreat
namespace Go.Proofs.YthbiaipagceokaaGreat
open Go Go.Eng Go.Pw1

theorem Bq1 (c : Cd) (t : Tr) (ht : t.Ok c.cuts) (k : Nat) (hk : k < c.p.things.length) (hw : (whyX c.p k).1 = 0) (q : Option Addr) (b o cap bc bm : Nat) (W : World) (h : CdAt c q b o cap bc bm W) :
    Calls Tryz.prog 129 #[mtV bc t, .int .i64 (k : Int)] W (Pure (.int .i64 (whyM c t k)) W) := by
  have hc := h.ok
  have hv := h.v
  have hM := h.m
  have hs := Bv0 h.pk k
  have hl := h.pk.len
  refine Aa2 Tryz.func129 rfl rfl ?_
  refine st ?_
  refine zn (New.box rfl) (fun b2 => ?_)
  refine lv (Val.build (parts := []) rfl BE6 Bo9 rfl) ?_
  refine lv (Val.makeInterface rfl BI2) ?_
  refine lv (Val.build (parts := []) rfl BE5 Bo8 rfl) ?_
  refine lv (Val.makeInterface rfl BI1) ?_
  refine lv (Val.build (parts := []) rfl BE4 Bo7 rfl) ?_
  refine lv (Val.makeInterface rfl BI0) ?_
  refine lv (Val.build (parts := []) rfl BE3 Bo6 rfl) ?_
  refine lv (Val.makeInterface rfl BH9) ?_
  refine lv (Val.build (parts := []) rfl BE2 Bo5 rfl) ?_
  refine lv (Val.makeInterface rfl BH8) ?_
  refine lv (Val.build (parts := [(0, .tmp 9), (1, .tmp 11), (2, .tmp 13), (3, .tmp 15), (4, .tmp 17)]) rfl Bi0 Bo4 rfl) ?_
  refine zn (New.alloc Bi0) (fun b5 => ?_)
  refine Aa9 (Sto.store rfl rfl .here BM6 rfl rfl) rfl rfl ?_
  refine su ?_
  refine Aq1 5 ?_
  refine st ?_
  refine RunC.cond rfl ?_ (fun h => absurd h (by decide))
  intro c0
  clear c0
  refine st ?_
  refine lv (As8 rfl rfl AF1 (by decide) (by decide) (show _ = some (Value.iface 216 (.agg #[])) from rfl)) ?_
  refine Ae5 13 Al3 (.cons .here rfl (.cons .here rfl .nil)) ?_
  refine zw 0 ?_
  refine zw 1 ?_
  refine zw 2 ?_
  refine zw 3 ?_
  refine zw 4 ?_
  refine zw 5 ?_
  refine zw 6 ?_
  refine zv 7 rfl (Aa4 rfl hv (by simp) AJ9 rfl) ?_
  refine zw 8 ?_
  refine zw 10 ?_
  refine zv 11 rfl (Ap8 rfl rfl (Ao3 _)) ?_
  refine zw 12 ?_
  refine zA 9 ?_
  refine Ac5 rfl (Ap9 rfl rfl (fun w hm => hm.old_at hM (by simp)) Au3 Ar7 (by rw [AG1 hk, if_pos hw])) rfl rfl rfl (Aa0 (.cons .here rfl (.cons .here rfl .nil)) (.cons .here rfl (.cons .here rfl .nil)) rfl ?_)
  refine zt ?_
  refine zB 13 ?_
  refine Ab4 rfl (Ai0 rfl rfl (fun w => An1 _ w) BU4) rfl rfl rfl (fun w hm => Bq0 c hc t ht k _ hs q cap bc bm w (hm.old_at hv (by simp))) (Ab1 ?_)
  refine zd ?_
  refine st ?_
  refine cn rfl ?_ ?_
  ·intro c1'
   refine st ?_
   refine lu (Val.add rfl rfl (IntWalk.i64_in _ ⟨by decide, by decide⟩)) ?_
   exact Aa7 (.r1 rfl (.tmp rfl)) (by simp [whyM, hurtL, idxF, *])
  intro c1'
  have e0 := Int.not_lt.2 c1'
  refine st ?_
  refine Aa1 (Val.add rfl rfl (IntWalk.i64_in _ ⟨by decide, by decide⟩)) rfl rfl rfl ?_
  refine vp rfl rfl rfl rfl ?_
  refine RunL.nil ?_
  refine Aj2 (zS 1 rfl (zS 2 rfl (zS 4 rfl (zS 19 rfl (zS 20 rfl (Sub.nil _)))))) (.cons (.there .here) rfl .nil) ?_
  refine Ai2 ?_
  refine st ?_
  refine RunC.cond rfl ?_ (fun h => absurd h (by decide))
  intro c0
  clear c0
  refine st ?_
  refine lv (As8 rfl rfl AF1 (by decide) (by decide) (show _ = some (Value.iface 217 (.agg #[])) from rfl)) ?_
  refine Ae5 13 Al3 (.cons .here rfl .nil) ?_
  refine zw 0 ?_
  refine zw 1 ?_
  refine zw 2 ?_
  refine zw 3 ?_
  refine zw 4 ?_
  refine zw 5 ?_
  refine zw 6 ?_
  refine zv 7 rfl (Aa4 rfl hv (by simp) AJ9 rfl) ?_
  refine zw 8 ?_
  refine zw 10 ?_
  refine zv 11 rfl (Ap8 rfl rfl (Ao2 _)) ?_
  refine zw 12 ?_
  refine zA 9 ?_
  refine Ac5 rfl (Ap9 rfl rfl (fun w hm => hm.old_at hM (by simp)) Au3 Ar7 (by rw [AG1 hk, if_pos hw])) rfl rfl rfl (Aa0 (.cons .here rfl .nil) (.cons .here rfl .nil) rfl ?_)
  refine zt ?_
  refine zB 13 ?_
  refine Ab4 rfl (Ai0 rfl rfl (fun w => An0 _ w) BU3) rfl rfl rfl (fun w hm => BA8 c hc t ht k _ hs q cap bc bm w (hm.old_at hv (by simp))) (Ab1 ?_)
  refine zd ?_
  refine st ?_
  refine cn rfl ?_ ?_
  ·intro c1'
   refine st ?_
   refine lu (Val.add rfl rfl (IntWalk.i64_in _ ⟨by decide, by decide⟩)) ?_
   exact Aa7 (.r1 rfl (.tmp rfl)) (by simp [whyM, hurtL, idxF, *])
  intro c1'
  have e1 := Int.not_lt.2 c1'
  refine st ?_
  refine Aa1 (Val.add rfl rfl (IntWalk.i64_in _ ⟨by decide, by decide⟩)) rfl rfl rfl ?_
  refine vp rfl rfl rfl rfl ?_
  refine RunL.nil ?_
  refine Aj2 (zS 1 rfl (zS 2 rfl (zS 4 rfl (zS 19 rfl (zS 20 rfl (Sub.nil _)))))) (.cons .here rfl .nil) ?_
  refine Ai2 ?_
  refine st ?_
  refine RunC.cond rfl ?_ (fun h => absurd h (by decide))
  intro c0
  clear c0
  refine st ?_
  refine lv (As8 rfl rfl AF1 (by decide) (by decide) (show _ = some (Value.iface 218 (.agg #[])) from rfl)) ?_
  refine Ae5 13 Al3 (.cons .here rfl .nil) ?_
  refine zw 0 ?_
  refine zw 1 ?_
  refine zw 2 ?_
  refine zw 3 ?_
  refine zw 4 ?_
  refine zw 5 ?_
  refine zw 6 ?_
  refine zv 7 rfl (Aa4 rfl hv (by simp) AJ9 rfl) ?_
  refine zw 8 ?_
  refine zw 10 ?_
  refine zv 11 rfl (Ap8 rfl rfl (Ao1 _)) ?_
  refine zw 12 ?_
  refine zA 9 ?_
  refine Ac5 rfl (Ap9 rfl rfl (fun w hm => hm.old_at hM (by simp)) Au3 Ar7 (by rw [AG1 hk, if_pos hw])) rfl rfl rfl (Aa0 (.cons .here rfl .nil) (.cons .here rfl .nil) rfl ?_)
  refine zt ?_
  refine zB 13 ?_
  refine Ab4 rfl (Ai0 rfl rfl (fun w => Am9 _ w) BU2) rfl rfl rfl (fun w hm => Bf7 c hc t ht k _ hs q cap bc bm w (hm.old_at hv (by simp))) (Ab1 ?_)
  refine zd ?_
  refine st ?_
  refine cn rfl ?_ ?_
  ·intro c1'
   refine st ?_
   refine lu (Val.add rfl rfl (IntWalk.i64_in _ ⟨by decide, by decide⟩)) ?_
   exact Aa7 (.r1 rfl (.tmp rfl)) (by simp [whyM, hurtL, idxF, *])
  intro c1'
  have e2 := Int.not_lt.2 c1'
  refine st ?_
  refine Aa1 (Val.add rfl rfl (IntWalk.i64_in _ ⟨by decide, by decide⟩)) rfl rfl rfl ?_
  refine vp rfl rfl rfl rfl ?_
  refine RunL.nil ?_
  refine Aj2 (zS 1 rfl (zS 2 rfl (zS 4 rfl (zS 19 rfl (zS 20 rfl (Sub.nil _)))))) (.cons .here rfl .nil) ?_
  refine Ai2 ?_
  refine st ?_
  refine RunC.cond rfl ?_ (fun h => absurd h (by decide))
  intro c0
  clear c0
  refine st ?_
  refine lv (As8 rfl rfl AF1 (by decide) (by decide) (show _ = some (Value.iface 219 (.agg #[])) from rfl)) ?_
  refine Ae5 13 Al3 (.cons .here rfl .nil) ?_
  refine zw 0 ?_
  refine zw 1 ?_
  refine zw 2 ?_
  refine zw 3 ?_
  refine zw 4 ?_
  refine zw 5 ?_
  refine zw 6 ?_
  refine zv 7 rfl (Aa4 rfl hv (by simp) AJ9 rfl) ?_
  refine zw 8 ?_
  refine zw 10 ?_
  refine zv 11 rfl (Ap8 rfl rfl (Ao0 _)) ?_
  refine zw 12 ?_
  refine zA 9 ?_
  refine Ac5 rfl (Ap9 rfl rfl (fun w hm => hm.old_at hM (by simp)) Au3 Ar7 (by rw [AG1 hk, if_pos hw])) rfl rfl rfl (Aa0 (.cons .here rfl .nil) (.cons .here rfl .nil) rfl ?_)
  refine zt ?_
  refine zB 13 ?_
  refine Ab4 rfl (Ai0 rfl rfl (fun w => Am8 _ w) BU1) rfl rfl rfl (fun w hm => AV2 c hc t ht k _ hs q cap bc bm w (hm.old_at hv (by simp))) (Ab1 ?_)
  refine zd ?_
  refine st ?_
  refine cn rfl ?_ ?_
  ·intro c1'
   refine st ?_
   refine lu (Val.add rfl rfl (IntWalk.i64_in _ ⟨by decide, by decide⟩)) ?_
   exact Aa7 (.r1 rfl (.tmp rfl)) (by simp [whyM, hurtL, idxF, *])
  intro c1'
  have e3 := Int.not_lt.2 c1'
  refine st ?_
  refine Aa1 (Val.add rfl rfl (IntWalk.i64_in _ ⟨by decide, by decide⟩)) rfl rfl rfl ?_
  refine vp rfl rfl rfl rfl ?_
  refine RunL.nil ?_
  refine Aj2 (zS 1 rfl (zS 2 rfl (zS 4 rfl (zS 19 rfl (zS 20 rfl (Sub.nil _)))))) (.cons .here rfl .nil) ?_
  refine Ai2 ?_
  refine st ?_
  refine RunC.cond rfl ?_ (fun h => absurd h (by decide))
  intro c0
  clear c0
  refine st ?_
  refine lv (As8 rfl rfl AF1 (by decide) (by decide) (show _ = some (Value.iface 220 (.agg #[])) from rfl)) ?_
  refine Ae5 13 Al3 (.cons .here rfl .nil) ?_
  refine zw 0 ?_
  refine zw 1 ?_
  refine zw 2 ?_
  refine zw 3 ?_
  refine zw 4 ?_
  refine zw 5 ?_
  refine zw 6 ?_
  refine zv 7 rfl (Aa4 rfl hv (by simp) AJ9 rfl) ?_
  refine zw 8 ?_
  refine zw 10 ?_
  refine zv 11 rfl (Ap8 rfl rfl (An9 _)) ?_
  refine zw 12 ?_
  refine zA 9 ?_
  refine Ac5 rfl (Ap9 rfl rfl (fun w hm => hm.old_at hM (by simp)) Au3 Ar7 (by rw [AG1 hk, if_pos hw])) rfl rfl rfl (Aa0 (.cons .here rfl .nil) (.cons .here rfl .nil) rfl ?_)
  refine zt ?_
  refine zB 13 ?_
  refine Ab4 rfl (Ai0 rfl rfl (fun w => Am7 _ w) BU0) rfl rfl rfl (fun w hm => Bw7 c t ht k hk _ q b o cap bc bm w (h.mem hm.drop)) (Ab1 ?_)
  refine zd ?_
  refine st ?_
  refine cn rfl ?_ ?_
  ·intro c1'
   refine st ?_
   refine lu (Val.add rfl rfl (IntWalk.i64_in _ ⟨by decide, by decide⟩)) ?_
   exact Aa7 (.r1 rfl (.tmp rfl)) (by simp [whyM, hurtL, idxF, *])
  intro c1'
  have e4 := c1'
  refine st ?_
  refine Aa1 (Val.add rfl rfl (IntWalk.i64_in _ ⟨by decide, by decide⟩)) rfl rfl rfl ?_
  refine vp rfl rfl rfl rfl ?_
  refine RunL.nil ?_
  refine Aj2 (zS 1 rfl (zS 2 rfl (zS 4 rfl (zS 19 rfl (zS 20 rfl (Sub.nil _)))))) (.cons .here rfl .nil) ?_
  refine Ai2 ?_
  refine st ?_
  refine RunC.cond rfl (fun h => absurd h (by decide)) ?_
  intro c0
  clear c0
  refine RunC.exit ?_
  refine su ?_
  refine Ab2 ?_
  refine su ?_
  exact Aa7 (.r1 rfl (.tmp rfl)) (by simp [whyM, hurtL, idxF, *])
def seenS (p : Pr) (k : Nat) : Int × Int := if (whyX p k).1 = 0 then (shiftX p k).1 else (0, 0)
theorem BG9 {p : Pr} {k : Nat} (hk : k < p.things.length) : Value.tuple #[(mFind (mEnts p) k).getD (.agg #[.int .i64 0, .int .i64 0]), .bool (mFind (mEnts p) k).isSome] = .tuple #[b2v (seenS p k), .bool (decide ((whyX p k).1 = 0))] := by
  rw [AG1 hk]
  unfold seenS
  by_cases h : (whyX p k).1 = 0
  · simp [h]
  · simp [h, b2v]
abbrev thO (p : Pr) := { x : Eng.Own // OwnOk 1 x (seenN p).length ((seenN p).map fun n => [Value.int .i64 n]).flatten }
theorem AW6 (c : Cd) (q : Option Addr) (b o cap bc bm : Nat) (W : World) (h : CdAt c q b o cap bc bm W) :
    Calls Tryz.prog 128 #[.pointer (some ⟨bc, 0, none⟩)] W (News (fun x : thO c.p => .slice (ownQ x.1) (seenN c.p).length (ownC x.1)) (fun x => ownB 3 x.1 ((seenN c.p).map fun n => [Value.int .i64 n]).flatten ++ []) W) := by
  have hv := h.v
  have hM := h.m
  have hl := h.pk.len
  refine Aa2 Tryz.func128 rfl rfl ?_
  refine su ?_
  refine lu (Aa4 rfl hv (by simp) AJ8 rfl) ?_
  refine Al2 (X := Eng.Own) (n0 := []) (c.p.things.length) (fun k x q => (13, .int .i64 (k : Int)) :: (2, ownV x (seenNK c.p k).length) :: q) (fun _ _ => _) (fun k x => []) (fun k x => ownB 3 x ((seenNK c.p k).map fun n => [Value.int .i64 n]).flatten ++ []) (fun k x => OwnOk 1 x (seenNK c.p k).length ((seenNK c.p k).map fun n => [Value.int .i64 n]).flatten) none OwnOk.start rfl (zE 13 rfl rfl (zE 2 rfl rfl (zS 0 rfl (zS 12 rfl (Sub.nil _))))) (Pick.same rfl) ?_
  intro k x kN kI
  have hx1 := kI
  refine st ?_
  refine cn rfl ?_ ?_
  ·intro c0'
   have hk : k < c.p.things.length := by omega
   refine su ?_
   refine lv (Aa4 rfl hv (by simp) AJ9 rfl) ?_
   refine lv (Aj4 rfl rfl (fun w hm => hm.old_at hM (by simp)) Au3 Ar7 (BG9 hk)) ?_
   refine zn (New.alloc Ah1) (fun b4 => ?_)
   refine Aa9 (Sto.store rfl rfl .here Ar8 rfl rfl) rfl rfl ?_
   refine st ?_
   refine cn rfl ?_ ?_
   ·intro c1'
    have hw : (whyX c.p k).1 = 0 := c1'
    have hsl := AF9 c.p k
    refine st ?_
    refine zn (New.buildSlice (parts := [(0, .tmp 27)]) rfl Am6 Az7 rfl rfl rfl rfl) (fun b28 => ?_)
    refine RunL.append (A := [(b28, _), (b4, _)]) (B := _) (x := x) (ys := [.int .i64 (k : Int)]) BL6 rfl rfl rfl hx1 rfl (fun h => by cases h) (fun w hm => Ak1 (hm.at (.head _))) (Ao6 rfl) (by simp only [maxLen]; omega) (by omega) rfl (fun z29 hz29 => ?_)
    refine st ?_
    refine lv (Val.add rfl rfl (IntWalk.i64_in _ ⟨by omega, by omega⟩)) ?_
    exact Ag2 z29 (by omega) (by first | (rw [Ap1 hw, ← Ap6, List.length_append]; exact hz29) | (rw [As0 hw]; exact hx1)) rfl (zE 13 rfl rfl (zE 2 rfl (by first | (rw [Ap1 hw, List.length_append]; rfl) | rw [As0 hw]) (zS 0 rfl (zS 12 rfl (Sub.nil _))))) (Pick.skip (Pick.skip (Pick.same (by rw [Ap1 hw, ← Ap6]; rfl))))
   intro c1'
   have hw : (whyX c.p k).1 ≠ 0 := c1'
   refine st ?_
   refine lv (Val.add rfl rfl (IntWalk.i64_in _ ⟨by omega, by omega⟩)) ?_
   exact Ag2 x (by omega) (by first | (rw [Ap1 hw, ← Ap6, List.length_append]; exact hz29) | (rw [As0 hw]; exact hx1)) rfl (zE 13 rfl rfl (zE 2 rfl (by first | (rw [Ap1 hw, List.length_append]; rfl) | rw [As0 hw]) (zS 0 rfl (zS 12 rfl (Sub.nil _))))) (Pick.skip (Pick.same (by rw [As0 hw])))
  intro c0'
  obtain rfl : k = c.p.things.length := by omega
  have y1 : ownV x (seenNK c.p c.p.things.length).length = .slice (ownQ x) (seenN c.p).length (ownC x) := Af8 hx1
  simp only [y1]
  refine RunC.exit ?_
  refine su ?_
  refine Ab2 ?_
  refine su ?_
  exact RunE.ret (chg := []) (.r1 rfl (.tmp rfl)) (fun _ hm => ⟨⟨x, hx1⟩, rfl, hm.pick (Pick.refl _)⟩)
theorem Ce4 {p : Pr} (x : thO p) {w : World} (hm : ∀ b o, (b, o) ∈ ownB 3 x.1 ((seenN p).map fun n => [Value.int .i64 n]).flatten ++ [] → w.heap[b]? = some o) : Sl w (ownQ x.1) (ownK x.1) 0 1 ((seenN p).map fun n => [Value.int .i64 n]) :=
  Ai6 (f := fun n : Int => [Value.int .i64 n]) (sz := 1) (fun _ => rfl) (by decide) x.2 (fun b o h => hm b o (List.mem_append_left _ h))
end Go.Proofs.YthbiaipagceokaaGreat
namespace Go.Pw1
open Go Go.Eng
end Go.Pw1
namespace Go.Proofs.YthbiaipagceokaaGreat
open Go Go.Eng Go.Pw1

theorem BZ7 {p : Pr} (x : thO p) (h : 0 < (seenN p).length) : ownQ x.1 = some ⟨ownK x.1, 0, none⟩ := by
  obtain ⟨b, c, r, e, _⟩ := x.2.has h
  rw [e]; rfl
theorem Bv1 (p : Pr) : (seenN p).length ≤ p.things.length := AF9 p _
theorem AQ0 (c : Cd) (t : Tr) (ht : t.Ok c.cuts) (q : Option Addr) (b o cap bc bm : Nat) (W : World) (h : CdAt c q b o cap bc bm W) :
    Calls Tryz.prog 99 #[mtV bc t] W (Pure (.tuple #[.int .i64 (hurtM c t).1, .int .i64 (hurtM c t).2]) W) := by
  have hv := h.v
  have hl := h.pk.len
  have hsl := Bv1 c.p
  refine Aa2 Tryz.func99 rfl rfl ?_
  refine st ?_
  refine zn (New.box rfl) (fun b1 => ?_)
  refine Aq0 (zF rfl BU9) rfl rfl rfl (fun w hm => AW6 c q b o cap bc bm w (h.mem hm)) (fun b8 => ?_)
  refine su ?_
  refine Af5 ((seenN c.p).length) (fun k q => (10, .int .i64 (k : Int)) :: q) (fun _ => _) (fun _ => []) (fun k => ∀ j (h : j < k) (h2 : j < (seenN c.p).length), whyM c t (seenN c.p)[j] = 0) (fun j h => absurd h (by omega)) rfl (zE 10 rfl rfl (zS 1 rfl (zS 8 rfl (zS 9 rfl (Sub.nil _))))) (.cons .here rfl (Pick.refl _)) ?_
  intro k kN kI
  refine st ?_
  refine cn rfl ?_ ?_
  ·intro c0'
   have hk : k < (seenN c.p).length := by omega
   obtain ⟨j, hi, hj, hw⟩ := BH1 (List.getElem_mem hk)
   refine st ?_
   refine lv (Ab0 rfl rfl Am6 (by omega) (by omega) (BZ7 b8 (by omega))) ?_
   refine lu (Ab8 rfl (fun w hm => (Ce4 b8 (fun b o h => hm.at (.tail _ (h)))).loadM1 (by decide) (Mem.refl w) (by simp) Ag0 hk (v := .int .i64 (j : Int)) (by rw [hi]; rfl))) ?_
   refine zc (zF rfl BU8) (fun w hm => Bq1 c t ht j hj hw q b o cap bc bm w (h.mem hm.drop)) ?_
   refine cn rfl ?_ ?_
   ·intro c1'
    refine su ?_
    exact Aa7 (.r2 rfl (.tmp rfl) (.tmp rfl)) (by have e := Ba0 (c := c) (t := t) hk (fun j2 h2 => kI j2 h2 (by omega)) (by rw [hi]; exact c1'); simp only [hurtM, e, hi])
   intro c1'
   refine st ?_
   refine lv (Val.add rfl rfl (IntWalk.i64_in _ ⟨by omega, by omega⟩)) ?_
   exact Ae4 (by omega) (fun j2 h2 h3 => by (rcases Nat.lt_or_ge j2 k with h4 | h4; exact kI j2 h4 h3; have e : j2 = k := (by omega); subst e; rw [hi]; exact c1')) rfl (zE 10 rfl rfl (zS 1 rfl (zS 8 rfl (zS 9 rfl (Sub.nil _))))) (.cons .here rfl (Pick.refl _))
  intro c0'
  obtain rfl : k = (seenN c.p).length := by omega
  refine RunC.exit ?_
  refine su ?_
  refine Ab2 ?_
  refine su ?_
  exact Aa7 (.r2 rfl (.tmp rfl) (.tmp rfl)) (by have e : hurtF c t (seenN c.p) = (0, 0) := Ba1 (fun i hi => by (obtain ⟨j, hj, rfl⟩ := List.getElem_of_mem hi; exact kI j hj hj)); simp only [hurtM, e])
end Go.Proofs.YthbiaipagceokaaGreat
namespace Go.Proofs.YthbiaipagceokaaGreat
open Go Go.Eng Go.Pw1

theorem BN4 {c : Cd} {l : List Tr} (h : openM c l = 0) : c.Ok ∧ c.p.Ok := by
  obtain ⟨h1, h2, h3⟩ := AT4 h
  have hp : isPair c.p = true := by
    cases hi : isPair c.p with
    | true => rfl
    | false => rw [AL2, hi] at h3; simp at h3
  exact ⟨(AE8 h1).1, Ag8 hp⟩
theorem BS9 {c : Cd} {t : Tr} (h : openM c [t] = 0) : t.Ok c.cuts ∧ t.ll + t.lr = t.rl + t.rr := by
  obtain ⟨h1, h2, h3⟩ := AT4 h
  exact AS7 (by simpa using h2)
end Go.Proofs.YthbiaipagceokaaGreat
namespace Go.Pw1
open Go Go.Eng
end Go.Pw1
namespace Go.Proofs.YthbiaipagceokaaGreat
open Go Go.Eng Go.Pw1

theorem AL9 (a : Int × Int) (l : List (Int × Int)) (q : Option Addr) (b o cap : Nat) (W : World) (hS : Sl W q b o 2 (l.map b2c)) (hl : l.length ≤ 100) :
    Calls Tryz.prog 130 #[b2v a, .slice q l.length cap] W (Pure (b2v (narL a l)) W) := by
  refine Aa2 Tryz.func130 rfl rfl ?_
  refine st ?_
  refine zn (New.box rfl) (fun b2 => ?_)
  refine zn (New.alloc Ah1) (fun b4 => ?_)
  refine Af5 (l.length) (fun k q => (9, .int .i64 (k : Int)) :: q) (fun _ => _) (fun k => [(b2, .cells (b2c (narL a (l.take k))).toArray 143 (0, 0))]) (fun _ => True) trivial rfl (zE 9 rfl rfl (zS 7 rfl (zS 8 rfl (zS 2 rfl (zS 4 rfl (Sub.nil _)))))) (.cons (.there .here) rfl (.cons .here rfl .nil)) ?_
  intro k kN kI
  clear kI
  refine st ?_
  refine cn rfl ?_ ?_
  ·intro c0'
   have hk : k < l.length := by omega
   obtain ⟨x, hx⟩ : ∃ x, l[k] = x := ⟨_, rfl⟩
   refine st ?_
   refine lv (Ab0 rfl rfl Bu7 (by omega) (by omega) (hS.ptrM hk)) ?_
   refine lv (Ab8 rfl (fun w hm => hS.loadX (by decide) hm (by simp) Ar8 hk hx)) ?_
   refine zn (New.alloc Ah1) (fun b6 => ?_)
   refine Aa9 (Sto.store rfl rfl .here Ar8 rfl rfl) rfl rfl ?_
   refine su ?_
   refine lu (Val.max rfl rfl) ?_
   refine lv (Val.min rfl rfl) ?_
   refine lv (Val.build (parts := [(0, .tmp 17), (1, .tmp 22)]) rfl Ah1 Ak7 rfl) ?_
   refine Aa9 (Sto.store rfl rfl (.there .here) Ar8 rfl rfl) rfl rfl ?_
   refine st ?_
   refine lv (Val.add rfl rfl (IntWalk.i64_in _ ⟨by omega, by omega⟩)) ?_
   exact Ae4 (by omega) trivial rfl (zE 9 rfl rfl (zS 7 rfl (zS 8 rfl (zS 2 rfl (zS 4 rfl (Sub.nil _)))))) (.cons (.there .here) (by rw [List.take_succ_eq_append_getElem hk, AZ1, hx]; rfl) (.cons (.there .here) rfl .nil))
  intro c0'
  obtain rfl : k = l.length := by omega
  rw [List.take_length]
  refine RunC.exit ?_
  refine su ?_
  refine Ab2 ?_
  refine su ?_
  refine Aa9 (Sto.store rfl rfl (.there .here) Ar8 rfl rfl) rfl rfl ?_
  refine su ?_
  exact Aa7 (.r1 rfl (.agg rfl (.tail _ (.head _)) Ar8 rfl)) (by first | rfl | simp)
theorem Bo2 (c : Cd) (t : Tr) (ht : t.Ok c.cuts) (q : Option Addr) (b o cap bc bm : Nat) (W : World) (h : CdAt c q b o cap bc bm W) :
    Calls Tryz.prog 100 #[mtV bc t] W (Pure (b2v (roomOf c t)) W) := by
  have hc := h.ok
  have hv := h.v
  have ab := AV6 hc ht
  have wb := AJ6 hc ht
  have k1 := hc.e1
  have k2 := hc.e2
  have k3 := hc.e3
  have k4 := hc.p1
  have k5 := hc.p2
  have k6 := hc.q1
  have k7 := hc.q2
  have k8 := hc.f1
  have k9 := hc.f2
  have k10 := hc.d1
  have k11 := hc.d2
  refine Aa2 Tryz.func100 rfl rfl ?_
  refine st ?_
  refine zn (New.box rfl) (fun b1 => ?_)
  refine zn (New.alloc Ah1) (fun b2 => ?_)
  refine lv (Val.build (parts := [(0, .const (.int .i64 0)), (1, .const (.int .i64 2000))]) rfl Ah1 Ak7 rfl) ?_
  refine Ae5 3 Al3 (.cons .here rfl (.cons .here rfl .nil)) ?_
  refine zw 0 ?_
  refine zw 2 ?_
  refine zA 1 ?_
  refine Ab4 rfl (zF rfl Bg0) rfl rfl rfl (fun w hm => Aw1 c hc t ht q cap bc bm w (hm.old_at hv (by simp))) (Aa0 (.cons .here rfl (.cons .here rfl .nil)) (.cons .here rfl (.cons .here rfl .nil)) rfl ?_)
  refine zt ?_
  refine zq 3 rfl (zF rfl Bf9) (fun w hm => AB6 c hc t ht q cap bc bm w (hm.old_at hv (by simp))) ?_
  refine zp 4 ?_
  refine zp 5 ?_
  refine zd ?_
  refine st ?_
  refine Ae5 52 Al3 (.cons .here rfl (.cons .here rfl .nil)) ?_
  refine zw 0 ?_
  refine zw 1 ?_
  refine zw 2 ?_
  refine zw 3 ?_
  refine zw 4 ?_
  refine zw 5 ?_
  refine zw 6 ?_
  refine zv 7 rfl (Aa4 rfl hv (by simp) Ag0 rfl) ?_
  refine zv 8 rfl (Af3 rfl rfl (IntWalk.i64_in _ ⟨by omega, by omega⟩)) ?_
  refine zw 9 ?_
  refine zw 10 ?_
  refine zw 11 ?_
  refine zw 12 ?_
  refine zw 13 ?_
  refine zw 14 ?_
  refine zv 15 rfl (Aa4 rfl hv (by simp) Ag0 rfl) ?_
  refine zv 16 rfl (Val.add rfl rfl (IntWalk.i64_in _ ⟨by omega, by omega⟩)) ?_
  refine zv 17 rfl (Val.build (parts := [(0, .tmp 20), (1, .tmp 28)]) rfl Ah1 Ak7 rfl) ?_
  refine zw 18 ?_
  refine zw 19 ?_
  refine zw 20 ?_
  refine zw 21 ?_
  refine zw 22 ?_
  refine zw 23 ?_
  refine zw 24 ?_
  refine zv 25 rfl (Aa4 rfl hv (by simp) Ag0 rfl) ?_
  refine zv 26 rfl (Af3 rfl rfl (IntWalk.i64_in _ ⟨by omega, by omega⟩)) ?_
  refine zw 27 ?_
  refine zw 28 ?_
  refine zw 29 ?_
  refine zw 30 ?_
  refine zw 31 ?_
  refine zv 32 rfl (Aa4 rfl hv (by simp) Ag0 rfl) ?_
  refine zv 33 rfl (Af3 rfl rfl (IntWalk.i64_in _ ⟨by omega, by omega⟩)) ?_
  refine zw 34 ?_
  refine zw 35 ?_
  refine zw 36 ?_
  refine zw 37 ?_
  refine zw 38 ?_
  refine zw 39 ?_
  refine zw 40 ?_
  refine zv 41 rfl (Aa4 rfl hv (by simp) Ag0 rfl) ?_
  refine zv 42 rfl (Af3 rfl rfl (IntWalk.i64_in _ ⟨by omega, by omega⟩)) ?_
  refine zw 43 ?_
  refine zw 44 ?_
  refine zw 45 ?_
  refine zw 46 ?_
  refine zw 47 ?_
  refine zv 48 rfl (Aa4 rfl hv (by simp) Ag0 rfl) ?_
  refine zv 49 rfl (Val.add rfl rfl (IntWalk.i64_in _ ⟨by omega, by omega⟩)) ?_
  refine zv 50 rfl (Val.build (parts := [(0, .tmp 45), (1, .tmp 61)]) rfl Ah1 Ak7 rfl) ?_
  refine zA 51 ?_
  refine Ac8 rfl (New.buildSlice (parts := [(0, .tmp 29), (1, .tmp 62)]) rfl Bu7 Ah1 rfl rfl rfl rfl) rfl rfl rfl (fun b63 => (Aa0 (.cons .here rfl (.cons .here rfl (.cons .here rfl .nil))) (.cons (.there .here) rfl (.cons (.there .here) rfl .nil)) rfl ?_))
  refine zt ?_
  refine zB 52 ?_
  refine Ab4 rfl (Ad1 rfl rfl BU7) rfl rfl rfl (fun w hm => AL9 (0, 2000) [(windowM c t - c.deep, windowM c t + c.front), (apartM c t - c.eyes.lo - c.prism, apartM c t - c.eyes.hi + c.squeeze)] (some ⟨b63, 0, none⟩) b63 0 2 w (Sl.rows (hm.at (.head _)) (by simp [b2c])) (by simp)) (Ab1 ?_)
  refine zB 53 ?_
  refine Ab9 rfl (Sto.store rfl rfl (.there .here) Ar8 rfl rfl) rfl rfl (Ab1 ?_)
  refine zd ?_
  refine su ?_
  exact Aa7 (.r1 rfl (.agg rfl (.tail _ (.head _)) Ar8 rfl)) (by first | rfl | simp)
theorem AS0 (c : Cd) (t : Tr) (q : Option Addr) (b o cap : Nat) (W : World) (hS : Sl W q b o 9 (c.p.things.map Th.cells)) (hl : c.p.things.length ≤ 100000000000) :
    Calls Tryz.prog 62 #[c.v q cap, t.v] W (Pure (.tuple #[b2v (roomX c t).1, .int .i64 (roomX c t).2]) W) := by
  by_cases h0 : openM c [t] = 0
  · obtain ⟨hc, hpk⟩ := BN4 h0
    obtain ⟨ht, _⟩ := BS9 h0
    refine Aa2 Tryz.func62 rfl rfl ?_
    refine st ?_
    refine zn (New.box rfl) (fun b2 => ?_)
    refine zn (New.box rfl) (fun b3 => ?_)
    refine zn (New.alloc Ac7) (fun b4 => ?_)
    refine zn (New.buildSlice (parts := [(0, .tmp 11)]) rfl AW8 Aj8 rfl rfl rfl rfl) (fun b12 => ?_)
    refine Ai4 (zF rfl Bl0) rfl rfl rfl (fun w hm => AL6 c [t] h0 q b o cap (some ⟨b12, 0, none⟩) b12 0 1 w (hS.mono (by decide) hm (by simp)) hl (Sl.one (hm.at (.head _)) rfl) (by simp)) (fun b13 => ?_)
    refine st ?_
    refine RunC.cond rfl (fun h => absurd h (by decide)) ?_
    intro c0
    clear c0
    refine su ?_
    refine zc (zF rfl BB1) (fun w hm => Av1 _ _ _ _ w) ?_
    refine lv (Val.build (parts := [(0, .tmp 20), (1, .tmp 22)]) rfl AS3 AG0 rfl) ?_
    refine zc (zF rfl BW6) (fun w hm => Bo2 c t ht q b o cap b13.1 b13.2 w ⟨hm.at (.head _), hm.at (.tail _ (.head _)), hS.mono (by decide) hm (by simp), hc, hpk⟩) ?_
    refine zn (New.alloc Ah1) (fun b8 => ?_)
    refine Aa9 (Sto.store rfl rfl .here Ar8 rfl rfl) rfl rfl ?_
    refine su ?_
    refine zc (zF rfl BP0) (fun w hm => AH0 (_, _) w) ?_
    refine cn rfl ?_ ?_
    ·intro c1'
     have c1r : (roomOf c t).2 < (roomOf c t).1 := c1'
     refine st ?_
     refine lv (Val.build (parts := []) rfl Ac7 Ah7 rfl) ?_
     refine Aa9 (Sto.store rfl rfl (.there (.there (.there (.there .here)))) Ad7 rfl rfl) rfl rfl ?_
     refine su ?_
     exact Aa7 (.r2 rfl (.agg rfl (.tail _ (.tail _ (.tail _ (.tail _ (.head _))))) Ad7 rfl) (.tmp rfl)) (by rw [roomX, if_pos h0, if_pos c1r]; rfl)
    intro c1'
    have c1r : ¬ (roomOf c t).2 < (roomOf c t).1 := Int.not_lt.2 c1'
    refine su ?_
    refine zc (zF rfl BO9) (fun w hm => AL8 (_, _) w) ?_
    refine Aa9 (Sto.store rfl rfl (.there (.there (.there (.there .here)))) Ad7 rfl rfl) rfl rfl ?_
    refine su ?_
    exact Aa7 (.r2 rfl (.agg rfl (.tail _ (.tail _ (.tail _ (.tail _ (.head _))))) Ad7 rfl) (.tmp rfl)) (by rw [roomX, if_pos h0, if_neg c1r]; rfl)
  · refine Aa2 Tryz.func62 rfl rfl ?_
    refine st ?_
    refine zn (New.box rfl) (fun b2 => ?_)
    refine zn (New.box rfl) (fun b3 => ?_)
    refine zn (New.alloc Ac7) (fun b4 => ?_)
    refine zn (New.buildSlice (parts := [(0, .tmp 11)]) rfl AW8 Aj8 rfl rfl rfl rfl) (fun b12 => ?_)
    refine zc (zF rfl Bl0) (fun w hm => AA1 c [t] _ rfl h0 q b o cap (some ⟨b12, 0, none⟩) b12 0 1 w (hS.mono (by decide) hm (by simp)) hl (Sl.one (hm.at (.head _)) rfl) (by simp)) ?_
    refine RunC.cond rfl ?_ (fun h => absurd h (by simp [h0]))
    intro c0
    clear c0
    refine st ?_
    refine lv (Val.build (parts := []) rfl Ac7 Ah7 rfl) ?_
    refine Aa9 (Sto.store rfl rfl (.there .here) Ad7 rfl rfl) rfl rfl ?_
    refine su ?_
    exact Aa7 (.r2 rfl (.agg rfl (.tail _ (.head _)) Ad7 rfl) (.tmp rfl)) (by simp [roomX, h0, b2v])
end Go.Proofs.YthbiaipagceokaaGreat
namespace Go.Pw1
open Go Go.Eng
theorem Bm2 {a z z' : Int} (ha : 0 ≤ a) (hz : 0 < z) (h : z ≤ z') : a / z' ≤ a / z := by
  have h1 : a / z < a / z + 1 := by omega
  have h2 := (Int.ediv_lt_iff_lt_mul hz).1 h1
  have h0 : 0 ≤ a / z := Int.ediv_nonneg ha (by omega)
  have h3 : (a / z + 1) * z ≤ (a / z + 1) * z' := Int.mul_le_mul_of_nonneg_left h (by omega)
  have h4 := (Int.ediv_lt_iff_lt_mul (show 0 < z' by omega)).2 (Int.lt_of_lt_of_le h2 h3)
  omega
/-- With the distance the shifts get no greater. -/
theorem AK5 {p : Pr} (hp : isPair p = true) (hb : isB (allS p) = true) {z z' : Int} (h1 : p.near ≤ z) (h2 : z ≤ z') (h3 : z' ≤ p.far) : (standsAt p z').1 ≤ (standsAt p z).1 ∧ (standsAt p z').2 ≤ (standsAt p z).2 := by
  have hpk := Ag8 hp
  have n1 := hpk.n1
  have w1 := AN3 hpk
  have w2 : (allS p).1 ≤ (allS p).2 := by simpa [isB] using hb
  have hst : ∀ z, p.near ≤ z → z ≤ p.far → standsAt p z = ((allS p).1 / z, (allS p).2 / z) := fun z h2 h3 => by
    unfold standsAt
    rw [AK4]
    have : within z p.near p.far = true := by simp [within, h2, h3]
    simp [standsR, openR, hp, hb, this]
  rw [hst z h1 (by omega), hst z' (by omega) h3]
  exact ⟨Bm2 (by omega) (by omega) h2, Bm2 (by omega) (by omega) h2⟩
end Go.Pw1
namespace Go.Proofs.YthbiaipagceokaaGreat
open Go Go.Eng Go.Pw1

theorem AX0 (f : Nat → Bool) (n : Nat) (hn : n ≤ 4000000000) (hmono : ∀ i j, i ≤ j → j < n → f i = true → f j = true) (fn : FuncId) (cp : List Value) (he : Enters Tryz.prog fn) (W : World)
    (hf : ∀ i, i < n → ∀ w, Mem W [] [] w → Calls Tryz.prog fn ([Value.int .i64 (i : Int)] ++ cp).toArray w (Pure (.bool (f i)) w)) :
    Calls Tryz.prog 64 #[.int .i64 (n : Int), .func (.func fn) #[] cp.toArray] W (Pure (.int .i64 (leastN f n : Int)) W) := by
  refine Aa2 Tryz.func64 rfl rfl ?_
  refine st ?_
  refine Al2 (X := Nat × Nat) (n0 := []) (n) (fun k x q => (5, .int .i64 (x.1 : Int)) :: (6, .int .i64 (x.2 : Int)) :: q) (fun _ _ => _) (fun k x => []) (fun k x => []) (fun k x => (x.1 ≤ x.2 ∧ x.2 ≤ n ∧ x.2 - x.1 + k ≤ n ∧ (∀ j, j < x.1 → f j = false) ∧ ∀ j, x.2 ≤ j → j < n → f j = true)) (0, n) ⟨by simp, by simp, by simp, fun j h => absurd h (by simp), fun j h h2 => absurd h2 (by simp at h; omega)⟩ rfl (zE 5 rfl rfl (zE 6 rfl rfl (zS 1 rfl (Sub.nil _)))) (Pick.same rfl) ?_
  intro k x kN kI
  obtain ⟨i1, i2, i3, i4, i5⟩ := kI
  refine st ?_
  refine cn rfl ?_ ?_
  ·intro c0'
   have hx : x.1 < x.2 := by omega
   have hm1 : (x.1 + x.2) >>> 1 = (x.1 + x.2) / 2 := Nat.shiftRight_eq_div_pow _ 1
   refine st ?_
   refine lv (BM2 (a := x.1) (b := x.2) (x.1 + x.2) rfl rfl rfl (AG2 (by omega))) ?_
   refine lv (Ak4 (p := ((x.1 + x.2 : Nat) : Int)) rfl Bn7 Bt3 (u64_in (by omega))) ?_
   refine lv (AV8 (a := x.1 + x.2) (b := 1) rfl rfl (by decide)) ?_
   refine lv (Ak4 (p := (((x.1 + x.2) >>> 1 : Nat) : Int)) rfl Bt3 Bn7 (AG2 (by omega))) ?_
   refine Ab3 (Ad1 rfl rfl he) rfl rfl rfl (fun w hm => hf _ (by omega) w hm.drop) ?_
   refine st ?_
   refine cn rfl ?_ ?_
   ·intro c1'
    refine st ?_
    refine lv (Val.add rfl rfl (IntWalk.i64_in _ ⟨by omega, by omega⟩)) ?_
    exact Ag2 ((x.1 + x.2) >>> 1 + 1, x.2) (by omega) ⟨by simp only; omega, by simp only; omega, by simp only; omega, fun j hj => (by (cases hfj : f j; rfl; rw [hmono j _ (by simp only at hj; omega) (by omega) hfj] at c1'; cases c1')), fun j h => i5 j h⟩ rfl (zE 5 rfl rfl (zE 6 rfl rfl (zS 1 rfl (Sub.nil _)))) .nil
   intro c1'
   refine st ?_
   exact Ag2 (x.1, (x.1 + x.2) >>> 1) (by omega) ⟨by simp only; omega, by simp only; omega, by simp only; omega, fun j hj => i4 j hj, fun j h h2 => hmono _ _ h h2 c1'⟩ rfl (zE 5 rfl rfl (zE 6 rfl rfl (zS 1 rfl (Sub.nil _)))) .nil
  intro c0'
  have hx : x.1 = x.2 := by omega
  refine RunC.exit ?_
  refine su ?_
  refine Ab2 ?_
  refine su ?_
  exact Aa7 (.r1 rfl (.tmp rfl)) (by rw [AM1 (m := x.1) (by omega) i4 (fun h => i5 _ (by omega) h)])
theorem Br1 (s r : Int × Int) (b : Nat) (W : World) (hb : W.heap[b]? = some (.cells (b2c r).toArray 23 (0, 0))) : Calls Tryz.prog 67 #[b2v s, .pointer (some ⟨b, 0, none⟩)] W (Pure (.bool (decide (s.2 ≤ r.2))) W) := by
  refine Aa2 Tryz.func67 rfl rfl ?_
  refine st ?_
  refine zn (New.box rfl) (fun b2 => ?_)
  refine lu (Aa4 rfl hb (by simp) Ag0 rfl) ?_
  exact Aa7 (.r1 rfl (.tmp rfl)) (by first | rfl | simp)
theorem Br0 (s r : Int × Int) (b : Nat) (W : World) (hb : W.heap[b]? = some (.cells (b2c r).toArray 23 (0, 0))) : Calls Tryz.prog 68 #[b2v s, .pointer (some ⟨b, 0, none⟩)] W (Pure (.bool (decide (s.1 < r.1))) W) := by
  refine Aa2 Tryz.func68 rfl rfl ?_
  refine st ?_
  refine zn (New.box rfl) (fun b2 => ?_)
  refine lu (Aa4 rfl hb (by simp) Ag0 rfl) ?_
  exact Aa7 (.r1 rfl (.tmp rfl)) (by first | rfl | simp)
theorem Bq9 (g : Int × Int → Bool) (c : Cd) (q : Option Addr) (b o cap : Nat) (i : Nat) (hp : c.p.Ok) (hi : c.p.near + i ≤ c.p.far) (fn : FuncId) (cp : List Value) (he : Enters Tryz.prog fn) (b1 b2 : Nat) (W : World) (hS : Sl W q b o 9 (c.p.things.map Th.cells))
    (h1 : W.heap[b1]? = some (.cells (c.cells q cap).toArray 63 (0, 0))) (h2 : W.heap[b2]? = some (.cells [.func (.func fn) #[] cp.toArray].toArray 139 (0, 0)))
    (hf : ∀ s w, Mem W [] [] w → Calls Tryz.prog fn ([b2v s] ++ cp).toArray w (Pure (.bool (g s)) w)) :
    Calls Tryz.prog 65 #[.int .i64 (i : Int), .pointer (some ⟨b1, 0, none⟩), .pointer (some ⟨b2, 0, none⟩)] W (Pure (.bool (g (standsAt c.p (c.p.near + i)))) W) := by
  have n1 := hp.n1
  have n2 := hp.n2
  have n3 := hp.n3
  have hl := hp.len
  refine Aa2 Tryz.func65 rfl rfl ?_
  refine su ?_
  refine lu (Ap0 rfl h1 (by simp) AJ7 rfl) ?_
  refine lv (Aa4 rfl h1 (by simp) Ag0 rfl) ?_
  refine lv (Val.add rfl rfl (IntWalk.i64_in _ ⟨by omega, by omega⟩)) ?_
  refine zc (zF rfl Cb8) (fun w hm => Bc4 c.p _ q b o cap w (hS.mono (by decide) hm (by simp)) (by omega)) ?_
  refine zn (New.alloc Ac7) (fun b5 => ?_)
  refine Aa9 (Sto.store rfl rfl .here Ad7 rfl rfl) rfl rfl ?_
  refine st ?_
  refine lu (Aa4 rfl h2 (by simp) AW4 rfl) ?_
  refine Ab3 (Ad1 rfl rfl he) rfl rfl rfl (fun w hm => hf _ w hm.drop) ?_
  refine su ?_
  exact Aa7 (.r1 rfl (.tmp rfl)) (by first | rfl | simp)
theorem AQ5 (g : Int × Int → Bool) (c : Cd) (q : Option Addr) (b o cap : Nat) (hp : c.p.Ok) (hmono : ∀ i j : Nat, i ≤ j → c.p.near + j ≤ c.p.far → g (standsAt c.p (c.p.near + i)) = true → g (standsAt c.p (c.p.near + j)) = true) (fn : FuncId) (cp : List Value) (he : Enters Tryz.prog fn) (b1 : Nat) (W : World) (hS : Sl W q b o 9 (c.p.things.map Th.cells))
    (h1 : W.heap[b1]? = some (.cells (c.cells q cap).toArray 63 (0, 0))) (hf : ∀ s w, Mem W [] [] w → Calls Tryz.prog fn ([b2v s] ++ cp).toArray w (Pure (.bool (g s)) w)) :
    Calls Tryz.prog 63 #[.func (.func fn) #[] cp.toArray, .pointer (some ⟨b1, 0, none⟩)] W (Pure (.int .i64 (c.p.near + leastN (fun i => g (standsAt c.p (c.p.near + i))) (c.p.far - c.p.near + 1).toNat)) W) := by
  have n1 := hp.n1
  have n2 := hp.n2
  have n3 := hp.n3
  have hl := hp.len
  have hle := Ap5 (fun i => g (standsAt c.p (c.p.near + i))) (c.p.far - c.p.near + 1).toNat
  obtain ⟨N, hN⟩ : ∃ N : Nat, c.p.far - c.p.near + 1 = N := ⟨(c.p.far - c.p.near + 1).toNat, by omega⟩
  have hN2 : (c.p.far - c.p.near + 1).toNat = N := by omega
  rw [hN2] at hle ⊢
  refine Aa2 Tryz.func63 rfl rfl ?_
  refine st ?_
  refine zn (New.box rfl) (fun b2 => ?_)
  refine Ae5 13 Al3 (.cons .here rfl .nil) ?_
  refine zw 0 ?_
  refine zw 1 ?_
  refine zv 2 rfl (Aa4 rfl h1 (by simp) Ag0 rfl) ?_
  refine zw 3 ?_
  refine zw 4 ?_
  refine zv 5 rfl (Aa4 rfl h1 (by simp) Ag0 rfl) ?_
  refine zw 6 ?_
  refine zw 7 ?_
  refine zv 8 rfl (Aa4 rfl h1 (by simp) Ag0 rfl) ?_
  refine zv 9 rfl (Af3 rfl rfl (IntWalk.i64_in _ ⟨by omega, by omega⟩)) ?_
  refine zv 10 rfl (Val.add rfl rfl (IntWalk.i64_in _ ⟨by omega, by omega⟩)) ?_
  simp only [hN]
  refine zw 11 ?_
  refine zA 12 ?_
  refine Ab4 rfl (zF rfl Cc0) rfl rfl rfl (fun w hm => AX0 (fun i => g (standsAt c.p (c.p.near + i))) N (by omega) (fun i j h1 h2 h3 => hmono i j h1 (by omega) h3) 65 [_, _] Cb9 w (fun i hi w2 hm2 => Bq9 g c q b o cap i hp (by omega) fn cp he _ _ w2 ((hS.mono (by decide) hm (by simp)).mono (by decide) hm2 (by simp)) (hm2.old_at (hm.old_at h1 (by simp)) (by simp)) (hm2.old_at (hm.at (.head _)) (by simp)) (fun s w3 hm3 => hf s w3 ((hm.drop.pass hm2).pass hm3)))) (Aa0 (.cons .here rfl .nil) (.cons .here rfl .nil) rfl ?_)
  refine zt ?_
  refine zo 13 rfl (Val.add rfl rfl (IntWalk.i64_in _ ⟨by omega, by omega⟩)) ?_
  refine zp 14 ?_
  refine zd ?_
  refine su ?_
  exact Aa7 (.r1 rfl (.tmp rfl)) (by first | rfl | simp)
theorem Bd1 (c : Cd) (t : Tr) (q : Option Addr) (b o cap : Nat) (W : World) (hS : Sl W q b o 9 (c.p.things.map Th.cells)) (hl : c.p.things.length ≤ 100000000000) :
    Calls Tryz.prog 40 #[c.v q cap, t.v] W (Pure (.tuple #[b2v (depthsX c t).1, .int .i64 (depthsX c t).2]) W) := by
  by_cases h0 : (roomX c t).2 = 0
  · have h00 : checkR c (trR c t) = 0 := by
      have h := h0
      rw [AX6] at h
      unfold roomR at h
      split at h
      · assumption
      · exact h
    obtain ⟨hp, hbb, hc, _⟩ := AQ8 h00
    have hpk := Ag8 hp
    have n1 := hpk.n1
    have n2 := hpk.n2
    have n3 := hpk.n3
    obtain ⟨r, hr⟩ : ∃ r, (roomX c t).1 = r := ⟨_, rfl⟩
    have hle1 := Ap5 (fun i => decide ((standsAt c.p (c.p.near + i)).2 ≤ r.2)) (c.p.far - c.p.near + 1).toNat
    have hle2 := Ap5 (fun i => decide ((standsAt c.p (c.p.near + i)).1 < r.1)) (c.p.far - c.p.near + 1).toNat
    refine Aa2 Tryz.func40 rfl rfl ?_
    refine st ?_
    refine zn (New.box rfl) (fun b2 => ?_)
    refine zn (New.box rfl) (fun b3 => ?_)
    refine zn (New.alloc Ac7) (fun b4 => ?_)
    refine zc (zF rfl BP2) (fun w hm => AS0 c t q b o cap w (hS.mono (by decide) hm (by simp)) hl) ?_
    refine zn (New.alloc Ac7) (fun b6 => ?_)
    refine Aa9 (Sto.store rfl rfl .here Ad7 rfl rfl) rfl rfl ?_
    refine st ?_
    refine RunC.cond rfl (fun h => absurd h (by simp [h0])) ?_
    intro c0
    clear c0
    refine st ?_
    refine Ab3 (Ad1 rfl rfl BP1) rfl rfl rfl (fun w hm => AQ5 (fun s => decide (s.2 ≤ r.2)) c q b o cap hpk (fun i j g1 g2 g3 => by (have g4 := AK5 hp hbb (z := c.p.near + i) (z' := c.p.near + j) (by omega) (by omega) g2; simp only [decide_eq_true_eq] at g3 ⊢; omega)) 67 [_] Cb7 _ w (hS.mono (by decide) hm (by simp)) (hm.at (.tail _ (.tail _ (.tail _ (.head _))))) (fun s w2 hm2 => Br1 s r _ w2 (by rw [← hr]; exact hm2.old_at (hm.at (.head _)) (by simp)))) ?_
    refine st ?_
    refine Ab3 (Ad1 rfl rfl BP1) rfl rfl rfl (fun w hm => AQ5 (fun s => decide (s.1 < r.1)) c q b o cap hpk (fun i j g1 g2 g3 => by (have g4 := AK5 hp hbb (z := c.p.near + i) (z' := c.p.near + j) (by omega) (by omega) g2; simp only [decide_eq_true_eq] at g3 ⊢; omega)) 68 [_] Cb6 _ w (hS.mono (by decide) hm (by simp)) (hm.at (.tail _ (.tail _ (.tail _ (.head _))))) (fun s w2 hm2 => Br0 s r _ w2 (by rw [← hr]; exact hm2.old_at (hm.at (.head _)) (by simp)))) ?_
    refine lv (Af3 rfl rfl (IntWalk.i64_in _ ⟨by omega, by omega⟩)) ?_
    refine lv (Val.build (parts := [(0, .tmp 23), (1, .tmp 27)]) rfl Ah1 Ak7 rfl) ?_
    refine zn (New.alloc Ah1) (fun b9 => ?_)
    refine Aa9 (Sto.store rfl rfl .here Ar8 rfl rfl) rfl rfl ?_
    refine su ?_
    refine zc (zF rfl BP0) (fun w hm => AH0 (_, _) w) ?_
    refine cn rfl ?_ ?_
    ·intro c1'
     have c1r : (depthsOf c (roomX c t).1).2 < (depthsOf c (roomX c t).1).1 := by rw [hr]; exact c1'
     refine st ?_
     refine lv (Val.build (parts := []) rfl Ac7 Ah7 rfl) ?_
     refine Aa9 (Sto.store rfl rfl (.there (.there .here)) Ad7 rfl rfl) rfl rfl ?_
     refine su ?_
     exact Aa7 (.r2 rfl (.agg rfl (.tail _ (.tail _ (.head _))) Ad7 rfl) (.tmp rfl)) (by rw [depthsX, if_pos h0, if_pos c1r]; rfl)
    intro c1'
    have c1r : ¬ (depthsOf c (roomX c t).1).2 < (depthsOf c (roomX c t).1).1 := by rw [hr]; exact Int.not_lt.2 c1'
    refine su ?_
    refine zc (zF rfl BO9) (fun w hm => AL8 (_, _) w) ?_
    refine Aa9 (Sto.store rfl rfl (.there (.there .here)) Ad7 rfl rfl) rfl rfl ?_
    refine su ?_
    exact Aa7 (.r2 rfl (.agg rfl (.tail _ (.tail _ (.head _))) Ad7 rfl) (.tmp rfl)) (by rw [depthsX, if_pos h0, if_neg c1r, hr]; rfl)
  · refine Aa2 Tryz.func40 rfl rfl ?_
    refine st ?_
    refine zn (New.box rfl) (fun b2 => ?_)
    refine zn (New.box rfl) (fun b3 => ?_)
    refine zn (New.alloc Ac7) (fun b4 => ?_)
    refine zc (zF rfl BP2) (fun w hm => AS0 c t q b o cap w (hS.mono (by decide) hm (by simp)) hl) ?_
    refine zn (New.alloc Ac7) (fun b6 => ?_)
    refine Aa9 (Sto.store rfl rfl .here Ad7 rfl rfl) rfl rfl ?_
    refine st ?_
    refine RunC.cond rfl ?_ (fun h => absurd h (by simp [h0]))
    intro c0
    clear c0
    refine st ?_
    refine lv (Val.build (parts := []) rfl Ac7 Ah7 rfl) ?_
    refine Aa9 (Sto.store rfl rfl (.there .here) Ad7 rfl rfl) rfl rfl ?_
    refine su ?_
    exact Aa7 (.r2 rfl (.agg rfl (.tail _ (.head _)) Ad7 rfl) (.tmp rfl)) (by simp [depthsX, h0, b2v])
end Go.Proofs.YthbiaipagceokaaGreat
namespace Go.Pw1
open Go Go.Eng
/-- Which of two rows of numbers comes first, as the library says. -/
def cmpL : List Int → List Int → Int
  | x :: l, y :: m => if x < y then -1 else if y < x then 1 else cmpL l m
  | [], _ :: _ => -1
  | _ :: _, [] => 1
  | [], [] => 0
theorem Bm4 : ∀ {l m : List Int} {k : Nat} (hk : k < l.length) (hm : k < m.length), (∀ j (h : j < k) (h1 : j < l.length) (h2 : j < m.length), l[j] = m[j]) → cmpL l m = if l[k] < m[k] then -1 else if m[k] < l[k] then 1 else cmpL (l.drop (k + 1)) (m.drop (k + 1))
  | x :: l, y :: m, 0, _, _, _ => by simp [cmpL]
  | x :: l, y :: m, k + 1, hk, hm, h => by
    have h0 := h 0 (by omega) (by simp) (by simp)
    simp only [List.getElem_cons_zero] at h0
    subst h0
    have h1 := Bm4 (l := l) (m := m) (k := k) (by simpa using hk) (by simpa using hm) (fun j hj h1 h2 => h (j + 1) (by omega) (by simp; omega) (by simp; omega))
    simp only [cmpL, Int.lt_irrefl, if_false, List.getElem_cons_succ, List.drop_succ_cons]
    exact h1
theorem Bb2 : ∀ {l m : List Int}, l.length = m.length → (∀ j (h1 : j < l.length) (h2 : j < m.length), l[j] = m[j]) → cmpL l m = 0
  | [], [], _, _ => rfl
  | x :: l, y :: m, hl, h => by
    have h0 := h 0 (by simp) (by simp)
    simp only [List.getElem_cons_zero] at h0
    subst h0
    simp only [cmpL, Int.lt_irrefl, if_false]
    exact Bb2 (by simpa using hl) (fun j h1 h2 => h (j + 1) (by simp; omega) (by simp; omega))
theorem Bm3 (a b : Tr) : (cmpL [a.ll, a.lr, a.rl, a.rr] [b.ll, b.lr, b.rl, b.rr] < 0) ↔ lexT a b := by
  simp only [cmpL, lexT]
  by_cases h1 : a.ll < b.ll
  · simp [h1]
  · by_cases h2 : b.ll < a.ll
    · simp [h1, h2]; omega
    · by_cases h3 : a.lr < b.lr
      · simp [h1, h2, h3]; omega
      · by_cases h4 : b.lr < a.lr
        · simp [h1, h2, h3, h4]; omega
        · by_cases h5 : a.rl < b.rl
          · simp [h1, h2, h3, h4, h5]; omega
          · by_cases h6 : b.rl < a.rl
            · simp [h1, h2, h3, h4, h5, h6]; omega
            · by_cases h7 : a.rr < b.rr
              · simp [h1, h2, h3, h4, h5, h6, h7]; omega
              · by_cases h8 : b.rr < a.rr
                · simp [h1, h2, h3, h4, h5, h6, h7, h8]
                · simp [h1, h2, h3, h4, h5, h6, h7, h8]
/-! ## The search -/
abbrev TrS (c : Cd) := { t : Tr // trIs c t = true }
def subL (c : Cd) (l : List Tr) : List (TrS c) := l.filterMap fun t => if h : trIs c t = true then some ⟨t, h⟩ else none
theorem At4 (c : Cd) (l m : List Tr) : subL c (l ++ m) = subL c l ++ subL c m := by simp [subL, List.filterMap_append]
theorem AT0 {c : Cd} {t : Tr} (h : trIs c t = true) : subL c [t] = [⟨t, h⟩] := by simp [subL, h]
theorem AS9 {c : Cd} : ∀ {l : List Tr}, (∀ t ∈ l, trIs c t = true) → (subL c l).map (·.1) = l
  | [], _ => rfl
  | t :: l, h => by
    have h1 := h t (by simp)
    rw [show t :: l = [t] ++ l from rfl, At4, AT0 h1, List.map_append, AS9 (fun u hu => h u (List.mem_cons_of_mem _ hu))]
    rfl
def bstep (c : Cd) (o : Option Tr) (x : Tr) : Option Tr := match o with
  | none => if fitT c x then some x else none
  | some u => if befT u x then some u else if fitT c x then some x else some u
def bfold (c : Cd) (l : List Tr) : Option Tr := l.foldl (bstep c) none
theorem Br6 (c : Cd) (l : List Tr) (x : Tr) : bfold c (l ++ [x]) = bstep c (bfold c l) x := by simp [bfold, List.foldl_append]
theorem AR0 {c : Cd} {u : Tr} : ∀ {l : List Tr}, (∀ x ∈ l, befT u x) → l.foldl (bstep c) (some u) = some u
  | [], _ => rfl
  | x :: l, h => by
    simp only [List.foldl_cons, bstep]
    rw [if_pos (h x (by simp))]
    exact AR0 fun y hy => h y (List.mem_cons_of_mem _ hy)
theorem AG4 {c : Cd} : ∀ {l : List Tr}, l.Pairwise befT → bfold c l = l.find? (fitT c)
  | [], _ => rfl
  | x :: l, h => by
    cases h with
    | cons hx hl =>
      unfold bfold
      simp only [List.foldl_cons, bstep, List.find?_cons]
      cases hf : fitT c x with
      | true => simp only [if_true]; exact AR0 hx
      | false => simp only [Bool.false_eq_true, if_false]; exact AG4 hl
def bO (c : Cd) (pre : List (TrS c)) : Option Tr := bfold c (pre.map (·.1))
theorem Bg9 (c : Cd) (pre : List (TrS c)) (x : TrS c) : bO c (pre ++ [x]) = bstep c (bO c pre) x.1 := by simp [bO, Br6]
theorem Cd9 {c : Cd} (hc : c.Ok) : bO c (subL c (trimsM c)) = bestM c := by
  unfold bO
  rw [AS9 (fun t ht => (AK0 hc).1 ht)]
  exact AG4 (Bi6 c)
theorem BX9 {c : Cd} (hc : c.Ok) {pre rest : List (TrS c)} (h : pre ++ rest = subL c (trimsM c)) {u : Tr} (hu : bO c pre = some u) : bestM c = some u := by
  have h1 : pre.map (·.1) ++ rest.map (·.1) = trimsM c := by rw [← List.map_append, h, AS9 (fun t ht => (AK0 hc).1 ht)]
  have h2 := Bi6 c
  rw [← h1] at h2
  have h3 : (pre.map (·.1)).find? (fitT c) = some u := by rw [← AG4 (List.pairwise_append.1 h2).1]; exact hu
  unfold bestM
  rw [← h1, List.find?_append, h3]
  rfl
def tz : Tr := ⟨0, 0, 0, 0⟩
theorem Au4 (lo : Int) {k : Nat} : ∀ {N : Nat}, k < N → ∃ r, fromZ lo N = fromZ lo k ++ (lo + k) :: r
  | N + 1, h => by
    rcases Nat.lt_or_ge k N with h1 | h1
    · obtain ⟨r, hr⟩ := Au4 lo h1
      exact ⟨r ++ [lo + N], by simp [fromZ, hr]⟩
    · obtain rfl : k = N := by omega
      exact ⟨[], rfl⟩
/-- What has been handed out, with the next one, is how all begin. -/
theorem Bd9 {c : Cd} {k m n : Nat} (hk : k < (2 * c.cuts + 1).toNat) (hm : m < oneN c k) (hn : n < oneN c k) :
    ∃ rest, (trO c (fromZ 0 k) ++ trA c k (fromZ (oneLo c k) m) ++ trD k (oneLo c k + m) (fromZ (oneLo c k) n)) ++ ([⟨oneLo c k + m, k - (oneLo c k + m), oneLo c k + n, k - (oneLo c k + n)⟩] ++ rest) = trimsM c := by
  obtain ⟨r1, h1⟩ := Au4 0 hk
  obtain ⟨r2, h2⟩ := Au4 (oneLo c k) hm
  obtain ⟨r3, h3⟩ := Au4 (oneLo c k) hn
  have e3 : trD k (oneLo c k + m) (fromZ (oneLo c k) (oneN c k)) = trD k (oneLo c k + m) (fromZ (oneLo c k) n) ++ ([⟨oneLo c k + m, k - (oneLo c k + m), oneLo c k + n, k - (oneLo c k + n)⟩] ++ trD k (oneLo c k + m) r3) := by rw [h3]; simp [trD]
  have e2 : trA c k (fromZ (oneLo c k) (oneN c k)) = trA c k (fromZ (oneLo c k) m) ++ (trD k (oneLo c k + m) (fromZ (oneLo c k) (oneN c k)) ++ trA c k r2) := by rw [h2]; simp [trA]; rw [← h2]
  have e1 : trimsM c = trO c (fromZ 0 k) ++ (trA c k (fromZ (oneLo c k) (oneN c k)) ++ trO c r1) := by unfold trimsM; rw [h1]; simp [trO]
  rw [e1, e2, e3]
  exact ⟨trD k (oneLo c k + m) r3 ++ trA c k r2 ++ trO c r1, by simp [List.append_assoc]⟩
theorem BT0 {c : Cd} (hc : c.Ok) (one : Int) : oneN c one ≤ 41 := by
  have := hc.c1
  have := hc.c2
  unfold oneN oneHi oneLo
  omega
theorem BS1 (one a : Int) (l : List Int) : (trD one a l).length = l.length := by simp [trD]
theorem Bt8 (c : Cd) (one : Int) : ∀ l : List Int, (trA c one l).length = l.length * oneN c one
  | [] => by simp [trA]
  | a :: l => by
    have h := Bt8 c one l
    have e : trA c one (a :: l) = trD one a (fromZ (oneLo c one) (oneN c one)) ++ trA c one l := by simp [trA]
    rw [e, List.length_append, h, BS1, AE2, List.length_cons, Nat.add_mul]
    omega
theorem Bt7 {c : Cd} (hc : c.Ok) : ∀ l : List Int, (trO c l).length ≤ l.length * 1681
  | [] => by simp [trO]
  | a :: l => by
    have h := Bt7 hc l
    have e : trO c (a :: l) = trA c a (fromZ (oneLo c a) (oneN c a)) ++ trO c l := by simp [trO]
    have h2 := BT0 hc a
    have h3 : oneN c a * oneN c a ≤ 41 * 41 := Nat.mul_le_mul h2 h2
    rw [e, List.length_append, Bt8, AE2, List.length_cons, Nat.add_mul]
    omega
theorem BG1 (c : Cd) (l : List Tr) : (subL c l).length ≤ l.length := List.length_filterMap_le _ _
theorem Bt6 {c : Cd} (hc : c.Ok) : (trimsM c).length ≤ 140000 := by
  have h := Bt7 hc (fromZ 0 (2 * c.cuts + 1).toNat)
  rw [AE2] at h
  have := hc.c2
  have h2 : (2 * c.cuts + 1).toNat ≤ 81 := by omega
  have h3 := Nat.mul_le_mul_right 1681 h2
  unfold trimsM
  omega
end Go.Pw1
namespace Go.Proofs.YthbiaipagceokaaGreat
open Go Go.Eng Go.Pw1

theorem AM2 (x : Int) (W : World) : Calls Tryz.prog 113 #[.int .i64 x] W (Pure (.bool false) W) := by
  refine Aa2 Tryz.func113 rfl rfl ?_
  refine su ?_
  exact Aa7 (.r1 rfl (.tmp rfl)) (by simp)
theorem AU6 (x y : Int) (W : World) : Calls Tryz.prog 83 #[.int .i64 x, .int .i64 y] W (Pure (.int .i64 (if x < y then -1 else if y < x then 1 else 0)) W) := by
  refine Aa2 Tryz.func83 rfl rfl ?_
  refine st ?_
  refine zc (zF rfl BC3) (fun w hm => AM2 _ w) ?_
  refine zc (zF rfl BC3) (fun w hm => AM2 _ w) ?_
  refine RunC.cond rfl (fun h => absurd h (by decide)) ?_
  intro c0
  clear c0
  refine st ?_
  refine RunC.cond rfl (fun h => absurd h (by decide)) ?_
  intro c2
  clear c2
  refine st ?_
  refine cn rfl ?_ ?_
  ·intro c3'
   refine su ?_
   exact Aa7 (.r1 rfl (.tmp rfl)) (by first | (simp [*]; done) | (rw [if_neg (by omega), if_pos (by omega)]) | (rw [if_neg (by omega), if_neg (by omega)]))
  intro c3'
  refine st ?_
  refine cn rfl ?_ ?_
  ·intro c4'
   refine su ?_
   exact Aa7 (.r1 rfl (.tmp rfl)) (by first | (simp [*]; done) | (rw [if_neg (by omega), if_pos (by omega)]) | (rw [if_neg (by omega), if_neg (by omega)]))
  intro c4'
  refine su ?_
  exact Aa7 (.r1 rfl (.tmp rfl)) (by first | (simp [*]; done) | (rw [if_neg (by omega), if_pos (by omega)]) | (rw [if_neg (by omega), if_neg (by omega)]))
theorem Br2 (l m : List Int) (hlm : l.length = m.length) (hl : l.length ≤ 1000) (q : Option Addr) (b o cap : Nat) (q2 : Option Addr) (b2 o2 cap2 : Nat) (W : World) (hS : Sl W q b o 1 (l.map fun n => [.int .i64 n])) (hS2 : Sl W q2 b2 o2 1 (m.map fun n => [.int .i64 n])) :
    Calls Tryz.prog 127 #[.slice q l.length cap, .slice q2 m.length cap2] W (Pure (.int .i64 (cmpL l m)) W) := by
  refine Aa2 Tryz.func127 rfl rfl ?_
  refine su ?_
  refine Af5 (l.length) (fun k q => (11, .int .i64 (k : Int)) :: q) (fun _ => _) (fun _ => []) (fun k => ∀ j (h : j < k) (h1 : j < l.length) (h2 : j < m.length), l[j] = m[j]) (fun j h => absurd h (by omega)) rfl (zE 11 rfl rfl (zS 0 rfl (zS 1 rfl (zS 9 rfl (zS 10 rfl (Sub.nil _)))))) .nil ?_
  intro k kN kI
  refine st ?_
  refine cn rfl ?_ ?_
  ·intro c0'
   have hk : k < l.length := by omega
   have hk2 : k < m.length := by omega
   refine st ?_
   refine lv (Ab0 rfl rfl Am6 (by omega) (by omega) (hS.ptrM hk)) ?_
   refine lu (Ab8 rfl (fun w hm => hS.loadM1 (by decide) hm (by simp) Ag0 hk (v := .int .i64 l[k]) rfl)) ?_
   refine RunC.cond rfl (fun h => absurd h (by simp; omega)) ?_
   intro c1
   clear c1
   refine st ?_
   refine lv (Ab0 rfl rfl Am6 (by omega) (by omega) (hS2.ptrM hk2)) ?_
   refine lv (Ab8 rfl (fun w hm => hS2.loadM1 (by decide) hm (by simp) Ag0 hk2 (v := .int .i64 m[k]) rfl)) ?_
   refine zc (zF rfl Ca9) (fun w hm => AU6 _ _ w) ?_
   refine cn rfl ?_ ?_
   ·intro c2'
    have hne : l[k] ≠ m[k] := fun e => by (rw [e] at c2'; simp at c2')
    refine su ?_
    exact Aa7 (.r1 rfl (.tmp rfl)) (by rw [Bm4 hk hk2 kI]; rcases Int.lt_or_gt_of_ne hne with h | h; simp [h]; have h5 : ¬ l[k] < m[k] := (by omega); simp [h, h5])
   intro c2'
   have heq : l[k] = m[k] := by (rcases Int.lt_trichotomy l[k] m[k] with h | h | h; simp [h] at c2'; exact h; have h5 : ¬ l[k] < m[k] := (by omega); simp [h, h5] at c2')
   refine st ?_
   refine lv (Val.add rfl rfl (IntWalk.i64_in _ ⟨by omega, by omega⟩)) ?_
   exact Ae4 (by omega) (fun j h h1 h2 => by (rcases Nat.lt_or_ge j k with h4 | h4; exact kI j h4 h1 h2; have e : j = k := (by omega); subst e; exact heq)) rfl (zE 11 rfl rfl (zS 0 rfl (zS 1 rfl (zS 9 rfl (zS 10 rfl (Sub.nil _)))))) .nil
  intro c0'
  obtain rfl : k = l.length := by omega
  refine RunC.exit ?_
  refine su ?_
  refine Ab2 ?_
  refine su ?_
  refine RunC.cond rfl (fun h => absurd h (by simp; omega)) ?_
  intro c3
  clear c3
  refine su ?_
  exact Aa7 (.r1 rfl (.tmp rfl)) (by rw [Bb2 hlm (fun j h1 h2 => kI j h1 h1 h2)])
theorem Sl.row1At {w : World} {b : Nat} {T : TypeId} {pre cs : List Value} {fr : Nat × Nat} (h : w.heap[b]? = some (.cells (pre ++ cs).toArray T fr)) : Sl w (some ⟨b, pre.length, none⟩) b pre.length 1 (cs.map fun v => [v]) :=
  ⟨fun _ => rfl, by simp, fun i hi j hj => by
    obtain rfl : j = 0 := by omega
    have hi' : i < cs.length := by simpa using hi
    rw [Af6 h, show pre.length + i * 1 + 0 = pre.length + i by omega, List.getElem?_append_right (by omega)]
    simp [hi']⟩
theorem Bm8 {a b : Tr} (h : sumT a < sumT b) : decide (befT a b) = true := decide_eq_true (.inl h)
theorem Bn0 {a b : Tr} (h : sumT a = sumT b) : decide (befT a b) = decide (cmpL [a.ll, a.lr, a.rl, a.rr] [b.ll, b.lr, b.rl, b.rr] < 0) := by
  refine decide_eq_decide.2 ?_
  rw [Bm3]
  exact ⟨fun g => Or.elim (show sumT a < sumT b ∨ (sumT a = sumT b ∧ lexT a b) from g) (fun g => by omega) (·.2), fun g => Or.inr ⟨h, g⟩⟩
theorem Bm9 {a b : Tr} (h : sumT b ≤ sumT a) (h2 : ¬ sumT a = sumT b) : decide (befT a b) = false := decide_eq_false (fun g => g.elim (fun g => by omega) (fun g => h2 g.1))
theorem AI8 {a b : Tr} (h : sumT a = sumT b ∧ (a.ll = b.ll ∧ a.lr = b.lr ∧ a.rl = b.rl ∧ a.rr = b.rr ∧ True) ∧ True) : decide (befT a b) = false := decide_eq_false (fun g => by unfold befT lexT at g; omega)
def ordV (a : Tr) : Value := .agg #[.int .i64 (sumT a), .int .i64 a.ll, .int .i64 a.lr, .int .i64 a.rl, .int .i64 a.rr]
theorem AT5 (a b : Tr) (W : World) : Calls Tryz.prog 98 #[ordV a, ordV b] W (Pure (.bool (decide (befT a b))) W) := by
  have hlex := Bm3 a b
  refine Aa2 Tryz.func98 rfl rfl ?_
  refine st ?_
  refine zn (New.box rfl) (fun b2 => ?_)
  refine zn (New.box rfl) (fun b3 => ?_)
  refine Ap2 (X := Unit) 20 (n0 := [(b3, _), (b2, _)]) (fun x q => (4, .bool (decide (befT a b))) :: q) (fun x => []) (fun x => []) (fun x => []) (fun x => True) Al3 (.cons .here rfl (.cons .here rfl .nil)) (zS 2 rfl (zS 3 rfl (Sub.nil _))) (.cons .here rfl (.cons .here rfl .nil)) ?_ ?_
  ·refine zw 0 ?_
   refine zw 1 ?_
   refine zv 2 rfl (Bc0 rfl rfl BT7 (Ca1 _ _ _ _ _ _ _ _ _ _ )) ?_
   refine zw 3 ?_
   refine Ax4 (dj := 8) rfl ?_ ?_
   ·intro g8
    have g8' := g8; clear g8
    try simp only [nH] at g8'
    refine zw 4 ?_
    refine zw 5 ?_
    refine zw 6 ?_
    refine zw 7 ?_
    refine zw 8 ?_
    refine zw 9 ?_
    refine Ax4 (dj := 14) rfl ?_ ?_
    ·intro g14
     have g14' := g14; clear g14
     try simp only [nH] at g14'
     refine zN 10 ?_
     refine zN 11 ?_
     refine zN 12 ?_
     refine zN 13 ?_
     refine zN 14 ?_
     refine zN 15 ?_
     refine zN 16 ?_
     refine zN 17 ?_
     refine zN 18 ?_
     refine zN 19 ?_
     refine zt ?_
     refine zB 20 ?_
     refine Ag4 rfl rfl rfl rfl (Ab1 ?_)
     refine zB 21 ?_
     refine Ag4 rfl rfl rfl rfl (Ab1 ?_)
     refine zB 22 ?_
     refine Ag4 rfl rfl rfl rfl (Ab1 ?_)
     refine zp 23 ?_
     refine zp 24 ?_
     refine zp 25 ?_
     refine zd ?_
     exact Ag1 () trivial rfl (zE 4 rfl (by first | rw [Bm8 g14'] | rw [Bn0 g20'] | rw [Bm9 g14' g20'] | rw [AI8 g8']) (zS 2 rfl (zS 3 rfl (Sub.nil _)))) (.cons .here rfl (.cons .here rfl .nil))
    intro g14
    have g14' := g14; clear g14
    try simp only [nH] at g14'
    refine zw 10 ?_
    refine zw 11 ?_
    refine zw 12 ?_
    refine zw 13 ?_
    refine zw 14 ?_
    refine zw 15 ?_
    refine Ax4 (dj := 20) rfl ?_ ?_
    ·intro g20
     have g20' := g20; clear g20
     try simp only [nH] at g20'
     refine zw 16 ?_
     refine zv 17 rfl (Ar3 rfl Ag6) ?_
     refine zw 18 ?_
     refine zv 19 rfl (Ar3 rfl Ag6) ?_
     refine zt ?_
     refine zq 20 rfl (zF rfl BV0) (fun w hm => Br2 [a.ll, a.lr, a.rl, a.rr] [b.ll, b.lr, b.rl, b.rr] rfl (by simp) (some ⟨b2, 1, none⟩) b2 1 4 (some ⟨b3, 1, none⟩) b3 1 4 w (Sl.row1At (pre := [_]) (hm.at (.tail _ (.head _)))) (Sl.row1At (pre := [_]) (hm.at (.head _)))) ?_
     refine zp 21 ?_
     refine zp 22 ?_
     refine zp 23 ?_
     refine zp 24 ?_
     refine zp 25 ?_
     refine zd ?_
     exact Ag1 () trivial rfl (zE 4 rfl (by first | rw [Bm8 g14'] | rw [Bn0 g20'] | rw [Bm9 g14' g20'] | rw [AI8 g8']) (zS 2 rfl (zS 3 rfl (Sub.nil _)))) (.cons .here rfl (.cons .here rfl .nil))
    intro g20
    have g20' := g20; clear g20
    try simp only [nH] at g20'
    refine zN 16 ?_
    refine zN 17 ?_
    refine zN 18 ?_
    refine zN 19 ?_
    refine zt ?_
    refine zB 20 ?_
    refine Ag4 rfl rfl rfl rfl (Ab1 ?_)
    refine zB 21 ?_
    refine Ag4 rfl rfl rfl rfl (Ab1 ?_)
    refine zp 22 ?_
    refine zp 23 ?_
    refine zp 24 ?_
    refine zp 25 ?_
    refine zd ?_
    exact Ag1 () trivial rfl (zE 4 rfl (by first | rw [Bm8 g14'] | rw [Bn0 g20'] | rw [Bm9 g14' g20'] | rw [AI8 g8']) (zS 2 rfl (zS 3 rfl (Sub.nil _)))) (.cons .here rfl (.cons .here rfl .nil))
   intro g8
   have g8' := g8; clear g8
   try simp only [nH] at g8'
   refine zN 4 ?_
   refine zN 5 ?_
   refine zN 6 ?_
   refine zN 7 ?_
   refine zN 8 ?_
   refine zN 9 ?_
   refine zN 10 ?_
   refine zN 11 ?_
   refine zN 12 ?_
   refine zN 13 ?_
   refine zN 14 ?_
   refine zN 15 ?_
   refine zN 16 ?_
   refine zN 17 ?_
   refine zN 18 ?_
   refine zN 19 ?_
   refine zt ?_
   refine zB 20 ?_
   refine Ag4 rfl rfl rfl rfl (Ab1 ?_)
   refine zB 21 ?_
   refine Ag4 rfl rfl rfl rfl (Ab1 ?_)
   refine zB 22 ?_
   refine Ag4 rfl rfl rfl rfl (Ab1 ?_)
   refine zB 23 ?_
   refine Ag4 rfl rfl rfl rfl (Ab1 ?_)
   refine zp 24 ?_
   refine zp 25 ?_
   refine zd ?_
   exact Ag1 () trivial rfl (zE 4 rfl (by first | rw [Bm8 g14'] | rw [Bn0 g20'] | rw [Bm9 g14' g20'] | rw [AI8 g8']) (zS 2 rfl (zS 3 rfl (Sub.nil _)))) (.cons .here rfl (.cons .here rfl .nil))
  intro x xI
  refine su ?_
  exact Aa7 (.r1 rfl (.tmp rfl)) (by first | rfl | simp)
end Go.Proofs.YthbiaipagceokaaGreat
namespace Go.Proofs.YthbiaipagceokaaGreat
open Go Go.Eng Go.Pw1

structure TrY (c : Cd) (q : Option Addr) (cap bc bm b1 : Nat) (W : World) : Prop where
  v : W.heap[bc]? = some (cdO c q cap bm)
  x : W.heap[b1]? = some (.cells [.pointer (some ⟨bc, 0, none⟩)].toArray 131 (0, 0))
theorem TrY.mem {c : Cd} {q : Option Addr} {cap bc bm b1 : Nat} {W w : World} {news : Blks} (h : TrY c q cap bc bm b1 W) (hm : Mem W [] news w) : TrY c q cap bc bm b1 w := ⟨hm.old_at h.v (by simp), hm.old_at h.x (by simp)⟩
theorem TrY.kp {c : Cd} {q : Option Addr} {cap bc bm b1 B : Nat} {nm : List Nat} {W W' : World} (h : TrY c q cap bc bm b1 W) (h1 : bc < B ∧ bc ∉ nm) (h2 : b1 < B ∧ b1 ∉ nm) (hk : KpX B nm W W') : TrY c q cap bc bm b1 W' :=
  ⟨(hk bc h1.1 h1.2).trans h.v, (hk b1 h2.1 h2.2).trans h.x⟩
theorem AK1 (bc : Nat) (W : World) : Calls Tryz.prog 97 #[.pointer (some ⟨bc, 0, none⟩)] W (News (fun b => .func (.func 126) #[] #[.pointer (some ⟨b, 0, none⟩)]) (fun b => [(b, .cells [.pointer (some ⟨bc, 0, none⟩)].toArray 131 (0, 0))]) W) := by
  refine Aa2 Tryz.func97 rfl rfl ?_
  refine st ?_
  refine zn (New.box rfl) (fun b1 => ?_)
  exact RunE.ret (chg := []) (.r1 rfl (.tmp rfl)) (fun _ hm => ⟨b1, rfl, hm⟩)
abbrev pre3 (c : Cd) (k m n : Nat) : List Tr := trO c (fromZ 0 k) ++ trA c k (fromZ (oneLo c k) m) ++ trD k (oneLo c k + m) (fromZ (oneLo c k) n)
set_option maxHeartbeats 2000000 in
theorem Bd7 (c : Cd) (hc : c.Ok) (q : Option Addr) (cap bc bm b1 : Nat) (w0 : World) (nm : List Nat) (h0 : TrY c q cap bc bm b1 w0) (hs1 : bc < w0.heap.size ∧ bc ∉ nm) (hs2 : b1 < w0.heap.size ∧ b1 ∉ nm) :
    SeqStopsK (Fr none) 8 Tryz.prog 126 #[.pointer (some ⟨b1, 0, none⟩)] (fun x : TrS c => #[.agg #[.int .i64 x.1.ll, .int .i64 x.1.lr, .int .i64 x.1.rl, .int .i64 x.1.rr]]) (KpX w0.heap.size nm) (fun xs => xs = subL c (trimsM c)) (fun pre => ∃ rest, pre ++ rest = subL c (trimsM c)) 200000 w0 := by
  unfold SeqStopsK
  intro l J Jx W hW hJ hJx hY hJ0
  have c1 := hc.c1
  have c2 := hc.c2
  have hSn : TrY c q cap bc bm b1 W := ⟨(hW.block bc hs1.1).trans h0.v, (hW.block b1 hs2.1).trans h0.x⟩
  have hJm : ∀ {s : List (TrS c)} {A C : World} {news : Blks}, J s A → Mem A [] news C → J s C := fun h hm => hJ _ _ _ none h hm.grown (fun r e => by cases e)
  have hJxm : ∀ {s : List (TrS c)} {A C : World} {news : Blks}, Jx s A → Mem A [] news C → Jx s C := fun h hm => hJx _ _ _ none h hm.grown (fun r e => by cases e)
  have hYY : ∀ (pre : List (TrS c)) (x : TrS c) (A : World), J pre A → pre.length < 200000 → TrY c q cap bc bm b1 A → YieldAt (Fr none) 8 Tryz.prog l #[.agg #[.int .i64 x.1.ll, .int .i64 x.1.lr, .int .i64 x.1.rl, .int .i64 x.1.rr]] A (fun e w' => ∃ y, e = .returned (.bool y) ∧ ((y = true ∧ J (pre ++ [x]) w' ∧ TrY c q cap bc bm b1 w') ∨ (y = false ∧ Jx (pre ++ [x]) w'))) := fun pre x A h1 h2 h3 =>
    Bd3 (hY pre x A h1 h2) (fun e w' hh => by
      rcases hh with ⟨rfl, hh, hk⟩ | ⟨rfl, hh⟩
      · exact ⟨true, rfl, .inl ⟨rfl, hh, h3.kp hs1 hs2 hk⟩⟩
      · exact ⟨false, rfl, .inr ⟨rfl, hh⟩⟩)
  have hlen := Bt6 hc
  refine AV0 (vs := [.func (.yield l) #[] #[], .pointer (some ⟨b1, 0, none⟩)]) Tryz.func126 rfl rfl ?_ 8
  refine RunCR.seq ?_
  refine RunCR.region ?_
  refine Ac1 (Aa4 rfl hSn.x (by simp) AG7 rfl) rfl rfl rfl ?_
  refine Ac1 (Aa5 rfl) rfl rfl rfl ?_
  refine Ac1 (Val.fieldAddr rfl As5) rfl rfl rfl ?_
  refine Ac1 (Val.fieldAddr rfl Ay6) rfl rfl rfl ?_
  refine Ac1 (Aa4 rfl hSn.v (by simp) Ag0 rfl) rfl rfl rfl ?_
  refine Ac1 (Val.mul rfl rfl (IntWalk.i64_in _ ⟨by omega, by omega⟩)) rfl rfl rfl ?_
  refine Ac1 (Val.add rfl rfl (IntWalk.i64_in _ ⟨by omega, by omega⟩)) rfl rfl rfl ?_
  refine Ac1 (Aa5 rfl) rfl rfl rfl ?_
  refine RunLR.nil ?_
  refine RunER.next ?_
  refine RunCR.block ?_
  refine AC1 ((2 * c.cuts + 1).toNat) (fun k q => (13, .int .i64 (k : Int)) :: q) (fun k Wk => J (subL c (trO c (fromZ 0 k))) Wk ∧ TrY c q cap bc bm b1 Wk) (fun w hm => ⟨hJm hJ0 hm, hSn.mem hm⟩) (zE 13 rfl rfl (zS 0 rfl (zS 1 rfl (zS 12 rfl (Sub.nil _))))) ?_
  intro k Wk kN kI
  obtain ⟨hJk, hSk⟩ := kI
  refine RunCR.seq ?_
  refine RunCR.region ?_
  refine Ac1 (Aa5 rfl) rfl rfl rfl ?_
  refine RunLR.nil ?_
  refine RunER.next ?_
  refine RunCR.seq ?_
  refine RunCR.cond rfl ?_ ?_
  ·intro c0
   have c0' := c0; clear c0
   try simp only [nH] at c0'
   have hk : k < (2 * c.cuts + 1).toNat := by omega
   have lo0 : 0 ≤ oneLo c k ∧ oneLo c k ≤ 80 := by unfold oneLo; omega
   refine RunCR.skip ?_
   refine RunER.next ?_
   refine RunCR.seq ?_
   refine RunCR.block ?_
   refine RunCR.seq ?_
   refine RunCR.region ?_
   refine Ac1 (Aa5 rfl) rfl rfl rfl ?_
   refine Ac1 (Aa5 rfl) rfl rfl rfl ?_
   refine RunLR.nil ?_
   refine RunER.next ?_
   refine RunCR.seq ?_
   refine RunCR.region ?_
   refine Ac1 (Aa5 rfl) rfl rfl rfl ?_
   refine Ac1 (Aa4 rfl hSk.x (by simp) AG7 rfl) rfl rfl rfl ?_
   refine Ac1 (Aa5 rfl) rfl rfl rfl ?_
   refine Ac1 (Val.fieldAddr rfl As5) rfl rfl rfl ?_
   refine Ac1 (Val.fieldAddr rfl Ay6) rfl rfl rfl ?_
   refine Ac1 (Aa4 rfl hSk.v (by simp) Ag0 rfl) rfl rfl rfl ?_
   refine Ac1 (Af3 rfl rfl (IntWalk.i64_in _ ⟨by omega, by omega⟩)) rfl rfl rfl ?_
   refine Ac1 (Val.max rfl rfl) rfl rfl rfl ?_
   refine Ac1 (Aa5 rfl) rfl rfl rfl ?_
   refine RunLR.nil ?_
   refine RunER.next ?_
   refine RunCR.block ?_
   refine AC1 (oneN c k) (fun m q => (4, .int .i64 (oneLo c k + m)) :: q) (fun m Wm => J (subL c (trO c (fromZ 0 k) ++ trA c k (fromZ (oneLo c k) m))) Wm ∧ TrY c q cap bc bm b1 Wm) (fun w hm => ⟨hJm (by simpa [trA, fromZ] using hJk) hm, hSk.mem hm⟩) (zE 4 rfl (by simp [oneLo]) (zS 0 rfl (zS 1 rfl (zS 3 rfl (zS 12 rfl (zS 13 rfl (Sub.nil _))))))) ?_
   intro m Wm mN mI
   obtain ⟨hJa, hSm⟩ := mI
   refine RunCR.seq ?_
   refine RunCR.seq ?_
   refine RunCR.region ?_
   refine Ac1 (Aa5 rfl) rfl rfl rfl ?_
   refine Ac1 (Aa5 rfl) rfl rfl rfl ?_
   refine Ac1 (Aa4 rfl hSm.x (by simp) AG7 rfl) rfl rfl rfl ?_
   refine Ac1 (Aa5 rfl) rfl rfl rfl ?_
   refine Ac1 (Val.fieldAddr rfl As5) rfl rfl rfl ?_
   refine Ac1 (Val.fieldAddr rfl Ay6) rfl rfl rfl ?_
   refine Ac1 (Aa4 rfl hSm.v (by simp) Ag0 rfl) rfl rfl rfl ?_
   refine Ac1 (Val.min rfl rfl) rfl rfl rfl ?_
   refine Ac1 (Aa5 rfl) rfl rfl rfl ?_
   refine RunLR.nil ?_
   refine RunER.next ?_
   refine RunCR.cond rfl ?_ ?_
   ·intro c1
    have c1' := c1; clear c1
    try simp only [nH] at c1'
    have hm3 : m < oneN c k := by unfold oneN oneHi; omega
    refine RunCR.skip ?_
    refine RunER.next ?_
    refine RunCR.seq ?_
    refine RunCR.block ?_
    refine RunCR.seq ?_
    refine RunCR.region ?_
    refine Ac1 (Aa5 rfl) rfl rfl rfl ?_
    refine Ac1 (Aa4 rfl hSm.x (by simp) AG7 rfl) rfl rfl rfl ?_
    refine Ac1 (Aa5 rfl) rfl rfl rfl ?_
    refine Ac1 (Val.fieldAddr rfl As5) rfl rfl rfl ?_
    refine Ac1 (Val.fieldAddr rfl Ay6) rfl rfl rfl ?_
    refine Ac1 (Aa4 rfl hSm.v (by simp) Ag0 rfl) rfl rfl rfl ?_
    refine Ac1 (Af3 rfl rfl (IntWalk.i64_in _ ⟨by omega, by omega⟩)) rfl rfl rfl ?_
    refine Ac1 (Val.max rfl rfl) rfl rfl rfl ?_
    refine Ac1 (Aa5 rfl) rfl rfl rfl ?_
    refine RunLR.nil ?_
    refine RunER.next ?_
    refine RunCR.block ?_
    refine AC1 (oneN c k) (fun n q => (5, .int .i64 (oneLo c k + n)) :: q) (fun n Wn => J (subL c (pre3 c k m n)) Wn ∧ TrY c q cap bc bm b1 Wn) (fun w hm => ⟨hJm (by simpa [pre3, trD, fromZ] using hJa) hm, hSm.mem hm⟩) (zE 5 rfl (by simp [oneLo]) (zS 0 rfl (zS 1 rfl (zS 3 rfl (zS 4 rfl (zS 12 rfl (zS 13 rfl (Sub.nil _)))))))) ?_
    intro n Wn nN nI
    obtain ⟨hJn, hSn3⟩ := nI
    refine RunCR.seq ?_
    refine RunCR.seq ?_
    refine RunCR.region ?_
    refine Ac1 (Aa5 rfl) rfl rfl rfl ?_
    refine Ac1 (Aa5 rfl) rfl rfl rfl ?_
    refine Ac1 (Aa4 rfl hSn3.x (by simp) AG7 rfl) rfl rfl rfl ?_
    refine Ac1 (Aa5 rfl) rfl rfl rfl ?_
    refine Ac1 (Val.fieldAddr rfl As5) rfl rfl rfl ?_
    refine Ac1 (Val.fieldAddr rfl Ay6) rfl rfl rfl ?_
    refine Ac1 (Aa4 rfl hSn3.v (by simp) Ag0 rfl) rfl rfl rfl ?_
    refine Ac1 (Val.min rfl rfl) rfl rfl rfl ?_
    refine Ac1 (Aa5 rfl) rfl rfl rfl ?_
    refine RunLR.nil ?_
    refine RunER.next ?_
    refine RunCR.cond rfl ?_ ?_
    ·intro c2
     have c2' := c2; clear c2
     try simp only [nH] at c2'
     have hn3 : n < oneN c k := by unfold oneN oneHi; omega
     obtain ⟨rest, hrest⟩ := Bd9 hk hm3 hn3
     have hx : trIs c ⟨oneLo c k + m, k - (oneLo c k + m), oneLo c k + n, k - (oneLo c k + n)⟩ = true := (AK0 hc).1 (by rw [← hrest]; simp)
     have e3 : subL c (pre3 c k m (n + 1)) = subL c (pre3 c k m n) ++ [(⟨_, hx⟩ : TrS c)] := by (rw [← AT0 hx, ← At4]; congr 1; unfold pre3; rw [show fromZ (oneLo c k) (n + 1) = fromZ (oneLo c k) n ++ [oneLo c k + n] from rfl, BF9]; simp only [List.append_assoc])
     have e4 : (subL c (pre3 c k m n) ++ [(⟨_, hx⟩ : TrS c)]) ++ subL c rest = subL c (trimsM c) := by rw [← AT0 hx, ← At4, ← At4, ← hrest, List.append_assoc]
     have hlt : (subL c (pre3 c k m n)).length < 200000 := by have h1 := congrArg List.length e4; have h2 := BG1 c (trimsM c); rw [List.length_append, List.length_append] at h1; omega
     refine RunCR.skip ?_
     refine RunER.next ?_
     refine RunCR.seq ?_
     refine RunCR.block ?_
     refine RunCR.seq ?_
     refine RunCR.region ?_
     iterate 4 refine Ac1 (Aa5 rfl) rfl rfl rfl ?_
     refine Ac1 (Af3 rfl rfl (IntWalk.i64_in _ ⟨by omega, by omega⟩)) rfl rfl rfl ?_
     iterate 3 refine Ac1 (Aa5 rfl) rfl rfl rfl ?_
     refine Ac1 (Af3 rfl rfl (IntWalk.i64_in _ ⟨by omega, by omega⟩)) rfl rfl rfl ?_
     refine Ac1 (Val.build (parts := [(0, .tmp 55), (1, .tmp 58), (2, .tmp 59), (3, .tmp 62)]) rfl Aq3 AP4 rfl) rfl rfl rfl ?_
     refine RunLR.yield (RY := fun y w' => (y = true ∧ J (subL c (pre3 c k m n) ++ [(⟨_, hx⟩ : TrS c)]) w' ∧ TrY c q cap bc bm b1 w') ∨ (y = false ∧ Jx (subL c (pre3 c k m n) ++ [(⟨_, hx⟩ : TrS c)]) w')) (AD8 rfl rfl) rfl rfl rfl (fun w hm => hYY _ (⟨_, hx⟩ : TrS c) w (hJm hJn hm) hlt (hSn3.mem hm)) ?_
     intro y64 W64 h64
     refine Ac1 (Aa5 rfl) rfl rfl rfl ?_
     refine RunLR.nil ?_
     refine RunER.next ?_
     refine RunCR.cond rfl ?_ ?_
     ·intro c3
      have c3' := c3; clear c3
      try simp only [nH] at c3'
      refine RunCR.ret ?_
      refine Af1 ?_
      refine Ad6 ?_
      refine Ad6 ?_
      refine Af1 ?_
      refine Af1 ?_
      refine Ad6 ?_
      refine Ad6 ?_
      refine Af1 ?_
      refine Af1 ?_
      refine Ad6 ?_
      refine Ad6 ?_
      refine Af1 ?_
      intro a w2 s
      rcases h64 with ⟨h, _⟩ | ⟨_, hX2⟩
      ·rw [h] at c3'; cases c3'
      exact ⟨s.defers, _, results_none rfl _ _ _, ⟨_, rfl⟩, .inr ⟨_, ⟨_, e4⟩, hJxm hX2 s.mem⟩⟩
     intro c3
     have c3' := c3; clear c3
     try simp only [nH] at c3'
     refine RunCR.skip ?_
     refine st ?_
     refine RunER.next ?_
     refine RunCR.region ?_
     refine Ac1 (Aa5 rfl) rfl rfl rfl ?_
     refine Ac1 (Val.add rfl rfl (IntWalk.i64_in _ ⟨by omega, by omega⟩)) rfl rfl rfl ?_
     refine Ac1 (Aa5 rfl) rfl rfl rfl ?_
     refine RunLR.nil ?_
     exact AB9 (by omega) (fun w hm => (by rcases h64 with ⟨_, hJ2, hS2⟩ | ⟨h, _⟩; exact ⟨by (rw [e3]; exact hJm hJ2 hm), hS2.mem hm⟩; rw [h] at c3'; cases c3')) (zE 5 rfl (congrArg (Value.int .i64) (by omega)) (zS 0 rfl (zS 1 rfl (zS 3 rfl (zS 4 rfl (zS 12 rfl (zS 13 rfl (Sub.nil _))))))))
    intro c2
    have c2' := c2; clear c2
    try simp only [nH] at c2'
    obtain rfl : n = oneN c k := by (unfold oneN oneHi at *; omega)
    refine RunCR.exit ?_
    refine su ?_
    refine Ab2 ?_
    refine st ?_
    refine RunER.next ?_
    refine RunCR.region ?_
    refine Ac1 (Aa5 rfl) rfl rfl rfl ?_
    refine Ac1 (Val.add rfl rfl (IntWalk.i64_in _ ⟨by omega, by omega⟩)) rfl rfl rfl ?_
    refine Ac1 (Aa5 rfl) rfl rfl rfl ?_
    refine RunLR.nil ?_
    exact AB9 (by omega) (fun w hm => ⟨by (rw [show fromZ (oneLo c k) (m + 1) = fromZ (oneLo c k) m ++ [oneLo c k + m] from rfl, BG0, ← List.append_assoc]; exact hJm hJn hm), hSn3.mem hm⟩) (zE 4 rfl (congrArg (Value.int .i64) (by omega)) (zS 0 rfl (zS 1 rfl (zS 3 rfl (zS 12 rfl (zS 13 rfl (Sub.nil _)))))))
   intro c1
   have c1' := c1; clear c1
   try simp only [nH] at c1'
   obtain rfl : m = oneN c k := by (unfold oneN oneHi at *; omega)
   refine RunCR.exit ?_
   refine su ?_
   refine Ab2 ?_
   refine st ?_
   refine RunER.next ?_
   refine RunCR.region ?_
   refine Ac1 (Val.add rfl rfl (IntWalk.i64_in _ ⟨by omega, by omega⟩)) rfl rfl rfl ?_
   refine Ac1 (Aa5 rfl) rfl rfl rfl ?_
   refine RunLR.nil ?_
   exact AB9 (by omega) (fun w hm => ⟨by (rw [show fromZ 0 (k + 1) = fromZ 0 k ++ [(k : Int)] by simp [fromZ], BF8]; exact hJm hJa hm), hSm.mem hm⟩) (zE 13 rfl rfl (zS 0 rfl (zS 1 rfl (zS 12 rfl (Sub.nil _)))))
  intro c0
  have c0' := c0; clear c0
  try simp only [nH] at c0'
  obtain rfl : k = (2 * c.cuts + 1).toNat := by omega
  refine RunCR.exit ?_
  refine su ?_
  refine Ab2 ?_
  intro a w2 s
  exact ⟨s.defers, _, results_none rfl _ _ _, ⟨_, rfl⟩, .inl ⟨_, rfl, hJm hJk s.mem⟩⟩
end Go.Proofs.YthbiaipagceokaaGreat
namespace Go.Pw1
open Go Go.Eng
def bestV (o : Option Tr) : Value := .tuple #[.agg #[.int .i64 (o.getD tz).ll, .int .i64 (o.getD tz).lr, .int .i64 (o.getD tz).rl, .int .i64 (o.getD tz).rr], .bool o.isSome]
theorem BY0 {c : Cd} {pre : List (TrS c)} {x : TrS c} {u : Tr} (h : bO c pre = some u) (h2 : befT u x.1) : bO c (pre ++ [x]) = bO c pre := by rw [Bg9, h]; simp [bstep, h2]
theorem BQ4 {c : Cd} {pre : List (TrS c)} {x : TrS c} (h : ∀ u, bO c pre = some u → ¬ befT u x.1) (h2 : fitT c x.1 = true) : bO c (pre ++ [x]) = some x.1 := by
  rw [Bg9]
  cases ho : bO c pre with
  | none => simp [bstep, h2]
  | some u => simp [bstep, h u ho, h2]
theorem BQ3 {c : Cd} {pre : List (TrS c)} {x : TrS c} (h2 : fitT c x.1 = false) : bO c (pre ++ [x]) = bO c pre := by
  rw [Bg9]
  cases ho : bO c pre with
  | none => simp [bstep, h2]
  | some u => simp [bstep, h2]
end Go.Pw1
namespace Go.Proofs.YthbiaipagceokaaGreat
open Go Go.Eng Go.Pw1

theorem Br7 (c : Cd) (q : Option Addr) (b o cap bc bm : Nat) (W : World) (h : CdAt c q b o cap bc bm W) :
    Calls Tryz.prog 60 #[.pointer (some ⟨bc, 0, none⟩)] W (Pure (bestV (bestM c)) W) := by
  have hv := h.v
  have hM := h.m
  have hc := h.ok
  have c2 := hc.c2
  refine As6 Tryz.func60 rfl rfl ?_
  refine st ?_
  refine zn (New.box rfl) (fun b1 => ?_)
  refine zn (New.alloc Aq3) (fun b2 => ?_)
  refine zn (New.alloc BY9) (fun b3 => ?_)
  refine RunC.scope ?_
  refine st ?_
  refine zn (New.alloc AS4) (fun b4 => ?_)
  refine RunC.label ?_
  refine su ?_
  refine Ai4 (zF rfl Ca4) rfl rfl rfl (fun w hm => AK1 bc w) (fun b10 => ?_)
  refine st ?_
  refine Bh7 (α := TrS c) (Y := Nat) (N := 200000) (S := fun xs => xs = subL c (trimsM c)) (Sp := fun pre => ∃ rest, pre ++ rest = subL c (trimsM c)) [(b10, _), (b1, _)] (fun x => [.agg #[.int .i64 x.1.ll, .int .i64 x.1.lr, .int .i64 x.1.rl, .int .i64 x.1.rr]]) (fun pre => [(b2, .cells [.int .i64 ((bO c pre).getD tz).ll, .int .i64 ((bO c pre).getD tz).lr, .int .i64 ((bO c pre).getD tz).rl, .int .i64 ((bO c pre).getD tz).rr].toArray 135 (0, 0)), (b3, .cells [.bool (bO c pre).isSome].toArray 4 (0, 0)), (b4, .cells [.int .i64 (sumT ((bO c pre).getD tz)), .int .i64 ((bO c pre).getD tz).ll, .int .i64 ((bO c pre).getD tz).lr, .int .i64 ((bO c pre).getD tz).rl, .int .i64 ((bO c pre).getD tz).rr].toArray 172 (0, 0))]) (fun x y q => (5, .pointer (some ⟨y, 0, none⟩)) :: q) (fun x y => [(y, .cells ([.int .i64 x.1.ll, .int .i64 x.1.lr, .int .i64 x.1.rl, .int .i64 x.1.rr]).toArray 135 (0, 0))]) (fun e pre V => e = .exit 0 ∧ ∃ pre0 x u, pre = pre0 ++ [x] ∧ bO c pre0 = some u ∧ V = [(b2, .cells [.int .i64 u.ll, .int .i64 u.lr, .int .i64 u.rl, .int .i64 u.rr].toArray 135 (0, 0)), (b3, .cells [.bool true].toArray 4 (0, 0)), (b4, .cells [.int .i64 (sumT u), .int .i64 u.ll, .int .i64 u.lr, .int .i64 u.rl, .int .i64 u.rr].toArray 172 (0, 0))]) (zS 1 rfl (zS 2 rfl (zS 3 rfl (zS 4 rfl (Sub.nil _))))) (.cons (.there (.there (.there .here))) rfl (.cons (.there (.there .here)) rfl (.cons (.there .here) rfl (.cons .here rfl (.cons .here rfl .nil))))) (fun _ => rfl) (fun _ _ _ hb => by simp only [List.mem_cons, List.not_mem_nil, or_false, Prod.mk.injEq] at hb; rcases hb with ⟨_, rfl⟩ | ⟨_, rfl⟩ | ⟨_, rfl⟩ <;> rfl) (fun _ _ _ _ hb => by simp only [List.mem_cons, List.not_mem_nil, or_false, Prod.mk.injEq] at hb; obtain ⟨_, rfl⟩ := hb; rfl) (fun _ => rfl) rfl rfl BV1 (fun w hm => Bd7 c hc q cap bc bm b10 w _ ⟨hm.old_at hv (by simp), hm.at (.tail _ (.tail _ (.tail _ (.head _))))⟩ (hm.oldApart (Array.getElem?_eq_some_iff.1 hv).1) (hm.apart (.head _))) ?_ ?_ ?_ ?_
  ·intro l1 pre x V1 hV1
   refine Ad5 ?_
   refine zn (New.alloc Aq3) (fun b5 => ?_)
   refine Aa9 (Sto.store rfl rfl .here Am5 rfl rfl) rfl rfl ?_
   refine st ?_
   exact BM3 b5 rfl (zE 5 rfl rfl (zS 1 rfl (zS 2 rfl (zS 3 rfl (zS 4 rfl (Sub.nil _)))))) (.cons .here rfl .nil)
  ·intro l1 pre x y W1 hlen1 hI1 hL1 hAp1
   have hv1_b10 := hI1.at (.tail _ (.tail _ (.tail _ (.head _))))
   have hn1_b10 := hAp1 _ (.inl ⟨_, (.head _)⟩)
   have hv1_b1 := hI1.at (.tail _ (.tail _ (.tail _ (.tail _ (.head _)))))
   have hn1_b1 := hAp1 _ (.inl ⟨_, (.tail _ (.head _))⟩)
   have hv1_bc := hI1.old_at hv (by simp)
   have hn1_bc := hAp1 _ (.inr (Array.getElem?_eq_some_iff.1 hv).1)
   have hv1_bm := hI1.old_at hM (by simp)
   have hn1_bm := hAp1 _ (.inr (Array.getElem?_eq_some_iff.1 hM).1)
   have hx := AS7 x.2
   obtain ⟨⟨x1, x2, x3, x4, x5, x6, x7, x8⟩, x9⟩ := hx
   have hx := AS7 x.2
   have hCd : ∀ {c0 nw : Blks} {w : World}, Mem W1 c0 nw w → c0.map (·.1) = _ → CdAt c q b o cap bc bm w := fun hm hc0 => h.mem (hI1.flat hm (fun b hb => by rw [hc0]; exact hAp1 b (.inr hb)))
   refine RunCR.block ?_
   refine RunCR.seq ?_
   refine Ad5 ?_
   refine lu (Aa8 rfl rfl Ag6 (by decide) (by decide)) ?_
   refine lu (Aa8 rfl rfl Ag6 (by decide) (by decide)) ?_
   refine lv (Val.add rfl rfl (IntWalk.i64_in _ ⟨by omega, by omega⟩)) ?_
   refine lu (Aa8 rfl rfl Ag6 (by decide) (by decide)) ?_
   refine lv (Val.add rfl rfl (IntWalk.i64_in _ ⟨by omega, by omega⟩)) ?_
   refine lu (Aa8 rfl rfl Ag6 (by decide) (by decide)) ?_
   refine lu (Val.add rfl rfl (IntWalk.i64_in _ ⟨by omega, by omega⟩)) ?_
   refine lv (Val.build (parts := [(0, .tmp 22), (1, .tmp 23)]) rfl AS4 Bp0 rfl) ?_
   refine zn (New.alloc AS4) (fun b6 => ?_)
   refine Aa9 (Sto.store rfl rfl .here AP0 rfl rfl) rfl rfl ?_
   refine st ?_
   refine RunER.next ?_
   refine RunCR.seq ?_
   refine RunCR.seq ?_
   refine Ad5 ?_
   refine su ?_
   refine RunER.next ?_
   refine RunCR.cond rfl ?_ ?_
   ·intro c0
    have c0' := c0; clear c0
    try simp only [nH] at c0'
    obtain ⟨u, hu⟩ : ∃ u, bO c pre = some u := Option.isSome_iff_exists.1 c0'
    simp only [hu, Option.getD_some, Option.isSome_some]
    refine RunCR.seq ?_
    refine RunCR.seq ?_
    refine Ad5 ?_
    refine su ?_
    refine RunER.next ?_
    refine RunCR.cond rfl ?_ ?_
    ·intro c1
     have c1' := c1; clear c1
     try simp only [nH] at c1'
     refine RunCR.exit ?_
     refine su ?_
     refine AI0 rfl ?_
     exact AO1 [(b2, _), (b3, _), (b4, _)] [(y, _)] ⟨rfl, pre, x, u, rfl, hu, rfl⟩ rfl
    intro c1
    have c1' := c1; clear c1
    try simp only [nH] at c1'
    refine RunCR.skip ?_
    refine RunER.next ?_
    refine RunCR.seq ?_
    refine Ad5 ?_
    refine su ?_
    refine zc (zF rfl Ca3) (fun w hm => AT5 u x.1 w) ?_
    refine RunER.next ?_
    refine RunCR.cond rfl ?_ ?_
    ·intro c2
     have c2' := c2; clear c2
     try simp only [nH] at c2'
     refine RunCR.exit ?_
     refine Ac0 ?_
     refine Ab2 ?_
     exact At0 [(y, _)] (by simp only [BY0 hu c2', hu, Option.getD_some, Option.isSome_some]; rfl)
    intro c2
    have c2' := c2; clear c2
    try simp only [nH] at c2'
    refine RunCR.skip ?_
    refine RunER.next ?_
    refine RunCR.seq ?_
    refine Ad5 ?_
    refine lu (Aa4 rfl hv1_b1 (Bk0 rfl hn1_b1) AG7 rfl) ?_
    refine lv (Val.build (parts := [(0, .tmp 35), (1, .tmp 36)]) rfl AS3 AG0 rfl) ?_
    refine zc (zF rfl BN9) (fun w hm => AQ0 c x.1 hx.1 q b o cap bc bm w (hCd hm rfl)) ?_
    refine RunER.next ?_
    refine RunCR.seq ?_
    refine Ad5 ?_
    refine st ?_
    refine RunER.next ?_
    refine RunCR.cond rfl ?_ ?_
    ·intro c3
     have c3' := c3; clear c3
     try simp only [nH] at c3'
     have hfit : fitT c x.1 = true := decide_eq_true c3'
     refine AO2 3 Al3 (.cons .here rfl .nil) ?_
     refine AO4 (i := 1) rfl (by kernel_rfl) (by kernel_rfl) (fun c hck => (Ac4 rfl (List.mem_append_right c (.head _)) AP0 rfl)) rfl rfl rfl (fun _ _ _ h => h) (.cons .here rfl .nil) rfl ?_
     refine zA 0 ?_
     refine Ac5 rfl (Ac4 rfl (.tail _ (.tail _ (.tail _ (.head _)))) Am5 rfl) rfl rfl rfl (Aa0 (.cons .here rfl .nil) (.cons .here rfl .nil) rfl ?_)
     refine zA 2 ?_
     refine Ab9 rfl (Ag5 rfl rfl .here Am5 rfl rfl) rfl rfl (Aa0 (.cons .here rfl .nil) (.cons .here rfl .nil) rfl ?_)
     refine zt ?_
     refine zB 3 ?_
     refine Ab9 rfl (Ag5 rfl rfl (.there (.there .here)) AP0 rfl rfl) rfl rfl (Ab1 ?_)
     refine zB 4 ?_
     refine Ab9 rfl (Ag5 rfl rfl (.there .here) BS0 rfl rfl) rfl rfl (Ab1 ?_)
     refine zd ?_
     refine st ?_
     exact At0 [(y, _)] (by simp only [BQ4 (fun u2 h2 => by (rw [hu] at h2; cases h2; exact c2')) hfit, Option.getD_some, Option.isSome_some]; rfl)
    intro c3
    have c3' := c3; clear c3
    try simp only [nH] at c3'
    have hfit : fitT c x.1 = false := decide_eq_false c3'
    refine RunCR.skip ?_
    refine st ?_
    exact At0 [(y, _)] (by simp only [BQ3 hfit, hu, Option.getD_some, Option.isSome_some]; rfl)
   intro c0
   have c0' := c0; clear c0
   try simp only [nH] at c0'
   have hn : bO c pre = none := by simpa using c0'
   refine RunCR.skip ?_
   refine RunER.next ?_
   refine RunCR.seq ?_
   refine Ad5 ?_
   refine lu (Aa4 rfl hv1_b1 (Bk0 rfl hn1_b1) AG7 rfl) ?_
   refine lv (Val.build (parts := [(0, .tmp 35), (1, .tmp 36)]) rfl AS3 AG0 rfl) ?_
   refine zc (zF rfl BN9) (fun w hm => AQ0 c x.1 hx.1 q b o cap bc bm w (hCd hm rfl)) ?_
   refine RunER.next ?_
   refine RunCR.seq ?_
   refine Ad5 ?_
   refine st ?_
   refine RunER.next ?_
   refine RunCR.cond rfl ?_ ?_
   ·intro c3
    have c3' := c3; clear c3
    try simp only [nH] at c3'
    have hfit : fitT c x.1 = true := decide_eq_true c3'
    refine AO2 3 Al3 (.cons .here rfl .nil) ?_
    refine AO4 (i := 1) rfl (by kernel_rfl) (by kernel_rfl) (fun c hck => (Ac4 rfl (List.mem_append_right c (.head _)) AP0 rfl)) rfl rfl rfl (fun _ _ _ h => h) (.cons .here rfl .nil) rfl ?_
    refine zA 0 ?_
    refine Ac5 rfl (Ac4 rfl (.tail _ (.tail _ (.tail _ (.head _)))) Am5 rfl) rfl rfl rfl (Aa0 (.cons .here rfl .nil) (.cons .here rfl .nil) rfl ?_)
    refine zA 2 ?_
    refine Ab9 rfl (Ag5 rfl rfl .here Am5 rfl rfl) rfl rfl (Aa0 (.cons .here rfl .nil) (.cons .here rfl .nil) rfl ?_)
    refine zt ?_
    refine zB 3 ?_
    refine Ab9 rfl (Ag5 rfl rfl (.there (.there .here)) AP0 rfl rfl) rfl rfl (Ab1 ?_)
    refine zB 4 ?_
    refine Ab9 rfl (Ag5 rfl rfl (.there .here) BS0 rfl rfl) rfl rfl (Ab1 ?_)
    refine zd ?_
    refine st ?_
    exact At0 [(y, _)] (by simp only [BQ4 (fun u2 h2 => by (rw [hn] at h2; cases h2)) hfit, Option.getD_some, Option.isSome_some]; rfl)
   intro c3
   have c3' := c3; clear c3
   try simp only [nH] at c3'
   have hfit : fitT c x.1 = false := decide_eq_false c3'
   refine RunCR.skip ?_
   refine st ?_
   exact At0 [(y, _)] (by simp only [BQ3 hfit]; rfl)
  ·intro xs bD0 hXS
   obtain rfl := hXS
   rw [Cd9 hc]
   refine st ?_
   refine At1 3 Al3 (.cons .here rfl (.cons (.there .here) rfl (.cons (.there .here) rfl (.cons (.there .here) rfl (.cons (.there .here) rfl .nil))))) ?_
   refine zw 1 ?_
   refine zA 0 ?_
   refine Ac5 rfl (Ac4 rfl (.tail _ (.head _)) Am5 rfl) rfl rfl rfl (Aa0 (.cons .here rfl (.cons (.there .here) rfl (.cons (.there .here) rfl (.cons (.there .here) rfl (.cons (.there .here) rfl .nil))))) (.cons .here rfl (.cons .here rfl (.cons .here rfl (.cons .here rfl (.cons .here rfl .nil))))) rfl ?_)
   refine zA 2 ?_
   refine Ab9 rfl (Sto.store rfl rfl (.there .here) Am5 rfl rfl) rfl rfl (Aa0 (.cons .here rfl (.cons (.there .here) rfl (.cons (.there .here) rfl (.cons (.there .here) rfl (.cons (.there .here) rfl .nil))))) (.cons .here rfl (.cons .here rfl (.cons .here rfl (.cons .here rfl (.cons .here rfl .nil))))) rfl ?_)
   refine zt ?_
   refine zB 3 ?_
   refine Ab9 rfl (Sto.store rfl rfl (.there (.there .here)) BS0 rfl rfl) rfl rfl (Ab1 ?_)
   refine zd ?_
   refine Ae2 ?_
   refine su ?_
   refine Aj6 ?_
   exact AN9 [bD0] (.cons .here rfl (.cons .here rfl (.cons .here rfl (.cons .here rfl (.cons .here rfl (.cons .here rfl .nil)))))) (.r2 rfl (.agg rfl (.head _) Am5 rfl) (.one rfl (.tail _ (.head _)) BS0 rfl)) (AT2 (by rfl))
  intro c pre V' bD0 hSp hNm hSt
  obtain ⟨rfl, pre0, x, u, rfl, hu, rfl⟩ := hSt
  obtain ⟨rest, hrest⟩ := hSp
  have hbest := BX9 hc (by rw [← List.append_assoc]; exact hrest) hu
  refine RunC.exit ?_
  refine Ab2 ?_
  refine st ?_
  refine At1 3 Al3 (.cons .here rfl (.cons (.there .here) rfl (.cons (.there .here) rfl (.cons (.there .here) rfl (.cons (.there .here) rfl .nil))))) ?_
  refine zw 1 ?_
  refine zA 0 ?_
  refine Ac5 rfl (Ac4 rfl (.tail _ (.head _)) Am5 rfl) rfl rfl rfl (Aa0 (.cons .here rfl (.cons (.there .here) rfl (.cons (.there .here) rfl (.cons (.there .here) rfl (.cons (.there .here) rfl .nil))))) (.cons .here rfl (.cons .here rfl (.cons .here rfl (.cons .here rfl (.cons .here rfl .nil))))) rfl ?_)
  refine zA 2 ?_
  refine Ab9 rfl (Sto.store rfl rfl (.there .here) Am5 rfl rfl) rfl rfl (Aa0 (.cons .here rfl (.cons (.there .here) rfl (.cons (.there .here) rfl (.cons (.there .here) rfl (.cons (.there .here) rfl .nil))))) (.cons .here rfl (.cons .here rfl (.cons .here rfl (.cons .here rfl (.cons .here rfl .nil))))) rfl ?_)
  refine zt ?_
  refine zB 3 ?_
  refine Ab9 rfl (Sto.store rfl rfl (.there (.there .here)) BS0 rfl rfl) rfl rfl (Ab1 ?_)
  refine zd ?_
  refine Ae2 ?_
  refine su ?_
  refine Aj6 ?_
  exact AN9 [bD0] (.cons .here rfl (.cons .here rfl (.cons .here rfl (.cons .here rfl (.cons .here rfl (.cons .here rfl .nil)))))) (.r2 rfl (.agg rfl (.head _) Am5 rfl) (.one rfl (.tail _ (.head _)) BS0 rfl)) (AT2 (by rw [hbest]; rfl))
end Go.Proofs.YthbiaipagceokaaGreat
namespace Go.Proofs.YthbiaipagceokaaGreat
open Go Go.Eng Go.Pw1

theorem Br9 (c : Cd) (q : Option Addr) (b o cap : Nat) (W : World) (hS : Sl W q b o 9 (c.p.things.map Th.cells)) (hl : c.p.things.length ≤ 100000000000) :
    Calls Tryz.prog 39 #[c.v q cap] W (Pure (.tuple #[(trimX c).1.v, .int .i64 (trimX c).2]) W) := by
  by_cases h0 : openM c [] = 0
  · obtain ⟨hc, hpk⟩ := BN4 h0
    refine Aa2 Tryz.func39 rfl rfl ?_
    refine st ?_
    refine zn (New.box rfl) (fun b1 => ?_)
    refine zn (New.alloc Aj8) (fun b2 => ?_)
    refine Ai4 (zF rfl Bl0) rfl rfl rfl (fun w hm => AL6 c [] h0 q b o cap none 0 0 0 w (hS.mono (by decide) hm (by simp)) hl Sl.emp (by simp)) (fun b10 => ?_)
    refine st ?_
    refine RunC.cond rfl (fun h => absurd h (by decide)) ?_
    intro c0
    clear c0
    refine st ?_
    refine zc (zF rfl Cc2) (fun w hm => Br7 c q b o cap b10.1 b10.2 w ⟨hm.at (.head _), hm.at (.tail _ (.head _)), hS.mono (by decide) hm (by simp), hc, hpk⟩) ?_
    refine zn (New.alloc Aq3) (fun b6 => ?_)
    refine Aa9 (Sto.store rfl rfl .here Am5 rfl rfl) rfl rfl ?_
    refine st ?_
    refine cn rfl ?_ ?_
    ·intro c1'
     have hb : bestM c = none := by simpa using c1'
     refine st ?_
     refine lv (Val.build (parts := []) rfl Aj8 Ay0 rfl) ?_
     refine Aa9 (Sto.store rfl rfl (.there (.there (.there .here))) Aq5 rfl rfl) rfl rfl ?_
     refine su ?_
     exact Aa7 (.r2 rfl (.agg rfl (.tail _ (.tail _ (.tail _ (.head _)))) Aq5 rfl) (.tmp rfl)) (by simp only [trimX, h0, if_true, hb]; rfl)
    intro c1'
    obtain ⟨u, hb⟩ : ∃ u, bestM c = some u := Option.isSome_iff_exists.1 c1'
    refine su ?_
    refine zc (zF rfl Cc1) (fun w hm => Bg1 _ _ _ _ w) ?_
    refine Aa9 (Sto.store rfl rfl (.there (.there (.there .here))) Aq5 rfl rfl) rfl rfl ?_
    refine su ?_
    exact Aa7 (.r2 rfl (.agg rfl (.tail _ (.tail _ (.tail _ (.head _)))) Aq5 rfl) (.tmp rfl)) (by simp only [trimX, h0, if_true, hb]; rfl)
  · refine Aa2 Tryz.func39 rfl rfl ?_
    refine st ?_
    refine zn (New.box rfl) (fun b1 => ?_)
    refine zn (New.alloc Aj8) (fun b2 => ?_)
    refine zc (zF rfl Bl0) (fun w hm => AA1 c [] _ rfl h0 q b o cap none 0 0 0 w (hS.mono (by decide) hm (by simp)) hl Sl.emp (by simp)) ?_
    refine RunC.cond rfl ?_ (fun h => absurd h (by simp [h0]))
    intro c0
    clear c0
    refine st ?_
    refine lv (Val.build (parts := []) rfl Aj8 Ay0 rfl) ?_
    refine Aa9 (Sto.store rfl rfl .here Aq5 rfl rfl) rfl rfl ?_
    refine su ?_
    exact Aa7 (.r2 rfl (.agg rfl (.head _) Aq5 rfl) (.tmp rfl)) (by simp only [trimX, h0, if_false]; rfl)
end Go.Proofs.YthbiaipagceokaaGreat
namespace Go.Proofs.YthbiaipagceokaaGreat
open Go Go.Eng Go.Pw1

theorem AC9 (n lo hi : Int) (W : World) : Calls Tryz.prog 16 #[.int .i64 n, .int .i64 lo, .int .i64 hi] W (Pure (.bool (within n lo hi)) W) := by
  refine Aa2 Tryz.func16 rfl rfl ?_
  refine st ?_
  refine Ac3 (dj := 10) (dp := 14) 4 rfl (fun g10 => by
    have g10' := g10
    try simp only [nH] at g10'
    refine sv ?_
    exact zs g10
  ) (fun g10 => by
    have g10' := g10
    try simp only [nH] at g10'
    iterate 3 refine Ac6 rfl rfl rfl ?_
    refine sv ?_
    exact zs g10
  ) ?_
  refine su ?_
  exact Aa7 (.r1 rfl (.tmp rfl)) (by first | rfl | simp)
theorem Au0 (s : Sp) (lo hi : Int) (W : World) : Calls Tryz.prog 17 #[.agg #[.int .i64 s.lo, .int .i64 s.hi], .int .i64 lo, .int .i64 hi] W (Pure (.bool (isSpan s lo hi)) W) := by
  refine Aa2 Tryz.func17 rfl rfl ?_
  refine st ?_
  refine zn (New.box rfl) (fun b3 => ?_)
  refine Ac3 (dj := 11) (dp := 17) 6 rfl (fun g11 => by
    have g11' := g11
    try simp only [nH] at g11'
    refine lv (Val.fieldAddr rfl Aj3) ?_
    refine lv (Aa3 rfl (.head _) Ag0 rfl) ?_
    refine lv (Val.fieldAddr rfl Ah5) ?_
    refine Aa1 (Aa3 rfl (.head _) Ag0 rfl) rfl rfl rfl ?_
    refine sv ?_
    exact zs g11
  ) (fun g11 => by
    have g11' := g11
    try simp only [nH] at g11'
    iterate 5 refine Ac6 rfl rfl rfl ?_
    refine sv ?_
    exact zs g11
  ) ?_
  refine st ?_
  refine Ac3 (dj := 18) (dp := 23) 5 rfl (fun g18 => by
    have g18' := g18
    try simp only [nH] at g18'
    refine lv (Val.fieldAddr rfl Ah5) ?_
    refine Aa1 (Aa3 rfl (.head _) Ag0 rfl) rfl rfl rfl ?_
    refine sv ?_
    exact zs g18
  ) (fun g18 => by
    have g18' := g18
    try simp only [nH] at g18'
    iterate 4 refine Ac6 rfl rfl rfl ?_
    refine sv ?_
    exact zs g18
  ) ?_
  refine su ?_
  exact Aa7 (.r1 rfl (.tmp rfl)) (by first | rfl | simp)
theorem AG8 (x y : Sp) (W : World) : Calls Tryz.prog 15 #[.agg #[.int .i64 x.lo, .int .i64 x.hi, .int .i64 y.lo, .int .i64 y.hi]] W (Pure (.bool (isPlace x y)) W) := by
  refine Aa2 Tryz.func15 rfl rfl ?_
  refine st ?_
  refine zn (New.box rfl) (fun b1 => ?_)
  refine zc (zF rfl Bl9) (fun w hm => Au0 ⟨_, _⟩ _ _ w) ?_
  refine Ac3 (dj := 6) (dp := 10) 4 rfl (fun g6 => by
    have g6' := g6
    try simp only [nH] at g6'
    refine su ?_
    refine Ab3 (zF rfl Bl9) rfl rfl rfl (fun w hm => Au0 ⟨_, _⟩ _ _ w) ?_
    refine sv ?_
    exact zs g6
  ) (fun g6 => by
    have g6' := g6
    try simp only [nH] at g6'
    iterate 3 refine Ac6 rfl rfl rfl ?_
    refine sv ?_
    exact zs g6
  ) ?_
  refine su ?_
  exact Aa7 (.r1 rfl (.tmp rfl)) (by first | rfl | simp)
theorem Be3 (p : Pr) (q : Option Addr) (b o cap : Nat) (W : World) (hS : Sl W q b o 9 (p.things.map Th.cells)) (hl : p.things.length ≤ 100000000000) :
    Calls Tryz.prog 4 #[p.v q cap] W (Pure (.bool (isPair p)) W) := by
  refine Aa2 Tryz.func4 rfl rfl ?_
  refine st ?_
  refine zn (New.box rfl) (fun b1 => ?_)
  refine Af5 (p.things.length) (fun k q => (3, .int .i64 (k : Int)) :: q) (fun _ => _) (fun _ => []) (fun k => (p.things.take k).any (bad p) = false) (by simp) rfl (zE 3 rfl rfl (zS 1 rfl (Sub.nil _))) (.cons .here rfl .nil) ?_
  intro k kN kI
  refine su ?_
  refine cn rfl ?_ ?_
  ·intro c0'
   have hk : k < p.things.length := by omega
   obtain ⟨t, ht⟩ : ∃ t, p.things[k] = t := ⟨_, rfl⟩
   refine su ?_
   refine lv (Ab0 rfl rfl Aw7 (by omega) (by omega) (hS.ptrM hk)) ?_
   refine lv (Ab8 rfl (fun w hm => hS.loadX (by decide) hm (by simp) Av7 hk ht)) ?_
   refine zn (New.alloc Av9) (fun b4 => ?_)
   refine Aa9 (Sto.store rfl rfl .here Av7 rfl rfl) rfl rfl ?_
   refine su ?_
   refine zc (zF rfl BP9) (fun w hm => AG8 ⟨_, _⟩ ⟨_, _⟩ w) ?_
   refine Ad3 (dj := 21) (dp := 26) 5 rfl (fun g21 => by
     have g21' := g21
     try simp only [nH] at g21'
     refine su ?_
     refine Ab3 (zF rfl BP9) rfl rfl rfl (fun w hm => AG8 ⟨_, _⟩ ⟨_, _⟩ w) ?_
     refine sv ?_
     exact zs g21
   ) (fun g21 => by
     have g21' := g21
     try simp only [nH] at g21'
     iterate 4 refine Ac6 rfl rfl rfl ?_
     refine sv ?_
     exact zs g21
   ) ?_
   refine st ?_
   refine Ad3 (dj := 27) (dp := 41) 14 rfl (fun g27 => by
     have g27' := g27
     try simp only [nH] at g27'
     refine su ?_
     refine Ac3 (dj := 31) (dp := 40) 9 rfl (fun g31 => by
       have g31' := g31
       try simp only [nH] at g31'
       refine su ?_
       refine Ab3 (zF rfl Bm0) rfl rfl rfl (fun w hm => AC9 _ _ _ w) ?_
       refine sv ?_
       exact zs g31
     ) (fun g31 => by
       have g31' := g31
       try simp only [nH] at g31'
       iterate 8 refine Ac6 rfl rfl rfl ?_
       refine sv ?_
       exact zs g31
     ) ?_
     refine sv ?_
     exact zs g27
   ) (fun g27 => by
     have g27' := g27
     try simp only [nH] at g27'
     iterate 13 refine Ac6 rfl rfl rfl ?_
     refine sv ?_
     exact zs g27
   ) ?_
   refine st ?_
   refine cn rfl ?_ ?_
   ·intro c1'
    refine su ?_
    exact Aa7 (.r1 rfl (.tmp rfl)) (by have h := Ap7 (f := bad p) hk (by rw [ht]; simpa [bad] using c1'); simp [isPair, h])
   intro c1'
   refine st ?_
   refine lv (Val.add rfl rfl (IntWalk.i64_in _ ⟨by omega, by omega⟩)) ?_
   exact Ae4 (by omega) (Ah2 hk kI (by rw [ht]; obtain ⟨⟨h1, h2⟩, h3⟩ := c1'; simp only [bad, Bool.or_eq_false_iff, Bool.not_eq_false', Bool.and_eq_false_iff, decide_eq_true_eq]; exact ⟨⟨h1, h2⟩, h3⟩)) rfl (zE 3 rfl rfl (zS 1 rfl (Sub.nil _))) (.cons (.there .here) rfl .nil)
  intro c0'
  obtain rfl : k = p.things.length := by omega
  rw [List.take_length] at kI
  refine RunC.exit ?_
  refine su ?_
  refine Ab2 ?_
  refine su ?_
  refine Ac3 (dj := 46) (dp := 50) 4 rfl (fun g46 => by
    have g46' := g46
    try simp only [nH] at g46'
    refine su ?_
    refine Ab3 (zF rfl Bl9) rfl rfl rfl (fun w hm => Au0 ⟨_, _⟩ _ _ w) ?_
    refine sv ?_
    exact zs g46
  ) (fun g46 => by
    have g46' := g46
    try simp only [nH] at g46'
    iterate 3 refine Ac6 rfl rfl rfl ?_
    refine sv ?_
    exact zs g46
  ) ?_
  refine st ?_
  refine Ac3 (dj := 51) (dp := 55) 4 rfl (fun g51 => by
    have g51' := g51
    try simp only [nH] at g51'
    refine su ?_
    refine Ab3 (zF rfl Bl9) rfl rfl rfl (fun w hm => Au0 ⟨_, _⟩ _ _ w) ?_
    refine sv ?_
    exact zs g51
  ) (fun g51 => by
    have g51' := g51
    try simp only [nH] at g51'
    iterate 3 refine Ac6 rfl rfl rfl ?_
    refine sv ?_
    exact zs g51
  ) ?_
  refine st ?_
  refine Ac3 (dj := 56) (dp := 60) 4 rfl (fun g56 => by
    have g56' := g56
    try simp only [nH] at g56'
    refine su ?_
    refine Ab3 (zF rfl Bm0) rfl rfl rfl (fun w hm => AC9 _ _ _ w) ?_
    refine sv ?_
    exact zs g56
  ) (fun g56 => by
    have g56' := g56
    try simp only [nH] at g56'
    iterate 3 refine Ac6 rfl rfl rfl ?_
    refine sv ?_
    exact zs g56
  ) ?_
  refine st ?_
  refine Ac3 (dj := 61) (dp := 65) 4 rfl (fun g61 => by
    have g61' := g61
    try simp only [nH] at g61'
    refine su ?_
    refine Ab3 (zF rfl Bm0) rfl rfl rfl (fun w hm => AC9 _ _ _ w) ?_
    refine sv ?_
    exact zs g61
  ) (fun g61 => by
    have g61' := g61
    try simp only [nH] at g61'
    iterate 3 refine Ac6 rfl rfl rfl ?_
    refine sv ?_
    exact zs g61
  ) ?_
  refine st ?_
  refine Ac3 (dj := 66) (dp := 72) 6 rfl (fun g66 => by
    have g66' := g66
    try simp only [nH] at g66'
    refine su ?_
    refine Ab3 (zF rfl Bm0) rfl rfl rfl (fun w hm => AC9 _ _ _ w) ?_
    refine sv ?_
    exact zs g66
  ) (fun g66 => by
    have g66' := g66
    try simp only [nH] at g66'
    iterate 5 refine Ac6 rfl rfl rfl ?_
    refine sv ?_
    exact zs g66
  ) ?_
  refine su ?_
  exact Aa7 (.r1 rfl (.tmp rfl)) (by simp only [isPair, kI, Bool.not_false, Bool.and_true]; congr 1; cases isSpan p.focal 1 50000 <;> cases isSpan p.base 1 10000 <;> cases within p.tilt 0 1000 <;> cases within p.near 2000 1073741824 <;> cases within p.far p.near 1073741824 <;> simp)
end Go.Proofs.YthbiaipagceokaaGreat
namespace Go.Proofs.YthbiaipagceokaaGreat
open Go Go.Eng
theorem BQ1 : Enters Tryz.prog 12 := Aa6 Tryz.func12 (by kernel_rfl) rfl
theorem Ba9 : Enters Tryz.prog 14 := Aa6 Tryz.func14 (by kernel_rfl) rfl
theorem Cd0 : Enters Tryz.prog 18 := Aa6 Tryz.func18 (by kernel_rfl) rfl
theorem Ba8 : Enters Tryz.prog 19 := Aa6 Tryz.func19 (by kernel_rfl) rfl
theorem Cc9 : Enters Tryz.prog 20 := Aa6 Tryz.func20 (by kernel_rfl) rfl
theorem BB8 : Enters Tryz.prog 37 := Aa6 Tryz.func37 (by kernel_rfl) rfl
theorem BP7 : Enters Tryz.prog 38 := Aa6 Tryz.func38 (by kernel_rfl) rfl
theorem Cc8 : Enters Tryz.prog 39 := Aa6 Tryz.func39 (by kernel_rfl) rfl
theorem BB7 : Enters Tryz.prog 40 := Aa6 Tryz.func40 (by kernel_rfl) rfl
theorem BL0 : Enters Tryz.prog 6 := Aa6 Tryz.func6 (by kernel_rfl) rfl
theorem Ax0 : Enters Tryz.prog 8 := Aa6 Tryz.func8 (by kernel_rfl) rfl
theorem BT8 : aggB Tryz.prog 101 = true := by kernel_rfl
theorem AM6 : fieldNB Tryz.prog 63 0 = some (0, 8) := by kernel_rfl
theorem Ca2 (a0 : Int) (a1 : Int) (a2 : Int) (a3 : Int) (c0 : Int) (c1 : Int) (c2 : Int) (c3 : Int) : eqF Tryz.prog 8 101 [.int .i64 a0, .int .i64 a1, .int .i64 a2, .int .i64 a3] [.int .i64 c0, .int .i64 c1, .int .i64 c2, .int .i64 c3] = some (decide (a0 = c0) && (decide (a1 = c1) && (decide (a2 = c2) && (decide (a3 = c3) && true)))) := by kernel_rfl
theorem Ap4 : pairB Tryz.prog 23 = true := by kernel_rfl
theorem Bw1 : placesB Tryz.prog 26 = some [(0, 2), (2, 2), (4, 1), (5, 1), (6, 1), (7, 1)] := by kernel_rfl
theorem AY3 : placesB Tryz.prog 34 = some [(0, 2), (2, 2)] := by kernel_rfl
theorem Bw0 : placesB Tryz.prog 36 = some [(0, 4), (4, 4), (8, 1)] := by kernel_rfl
theorem AY2 : placesB Tryz.prog 39 = some [(0, 1), (1, 1)] := by kernel_rfl
theorem AY1 : placesB Tryz.prog 43 = some [(0, 1), (1, 1), (2, 2), (4, 2)] := by kernel_rfl
theorem Bv9 : placesB Tryz.prog 63 = some [(0, 8), (8, 1), (9, 1), (10, 1), (11, 2), (13, 1), (14, 1), (15, 1), (16, 1)] := by kernel_rfl
theorem Bd2 : zeroB Tryz.prog 26 = some [.int .i64 0, .int .i64 0, .int .i64 0, .int .i64 0, .int .i64 0, .int .i64 0, .int .i64 0, .slice none 0 0] := by kernel_rfl
theorem Bt0 : zeroB Tryz.prog 34 = some [.int .i64 0, .int .i64 0, .int .i64 0, .int .i64 0] := by kernel_rfl
theorem AS2 : zeroB Tryz.prog 39 = some [.int .i64 0, .slice none 0 0] := by kernel_rfl
theorem Bs9 : zeroB Tryz.prog 63 = some [.int .i64 0, .int .i64 0, .int .i64 0, .int .i64 0, .int .i64 0, .int .i64 0, .int .i64 0, .slice none 0 0, .int .i64 0, .int .i64 0, .int .i64 0, .int .i64 0, .int .i64 0, .int .i64 0, .int .i64 0, .int .i64 0, .int .i64 0] := by kernel_rfl
end Go.Proofs.YthbiaipagceokaaGreat
namespace Go.Ct
open Go Go.Eng Go.Pw1
def c3 : Cd := ⟨⟨⟨9000, 9000⟩, ⟨65, 66⟩, 5, 2000, 100000, [⟨⟨100, 101⟩, ⟨0, 1⟩, ⟨-96, -95⟩, ⟨0, 2⟩, 3000⟩, ⟨⟨50, 50⟩, ⟨10, 12⟩, ⟨-10, -8⟩, ⟨14, 15⟩, 0⟩]⟩, 3200, 50, 20, ⟨6000, 6500⟩, 300, 900, 100, 200⟩
theorem BX4 : trimX c3 = (⟨2, 1, 0, 3⟩, 0) := by kernel_rfl
theorem BC7 : depthsX c3 ⟨2, 1, 0, 3⟩ = ((2956, 11700), 0) := by
  rw [Bg4]
  kernel_rfl
theorem BX6 : distX c3.p 1 = ((9591, 10241), 0) := by kernel_rfl
theorem BX5 : nearerX c3.p 0 1 = (2, 0) := by kernel_rfl
def c6L : List Sg := [⟨0, 1, ⟨100, 104⟩, ⟨0, 2⟩⟩, ⟨1, 2, ⟨50, 52⟩, ⟨-10, -8⟩⟩, ⟨0, 2, ⟨153, 160⟩, ⟨-9, -5⟩⟩]
def c6 : Ch := ⟨4, c6L⟩
theorem Cf5 : ChOk c6 := AE7 (by kernel_rfl)
theorem BL3 : RightC c6 := by
  have h : ((circs c6).all fun way => (decide (loL c6 false way ≤ 0) && decide (0 ≤ hiL c6 false way)) && (decide (loL c6 true way ≤ 0) && decide (0 ≤ hiL c6 true way))) = true := by kernel_rfl
  intro way hw nx
  have h1 := List.all_eq_true.1 h way hw
  simp only [Bool.and_eq_true, decide_eq_true_eq] at h1
  cases nx
  · exact h1.1
  · exact h1.2
theorem BX2 : betwX c6 0 2 false 0 = .ok ⟨153, 156⟩ := by kernel_rfl
theorem BL4 : betwX c6 0 2 true 0 = .ok ⟨-9, -6⟩ := by kernel_rfl
end Go.Ct
namespace Go.Proofs.YthbiaipagceokaaGreat
open Go Go.Eng Go.Ct Go.RowKit
open Go.Pw1 (Th Pr Sp)
theorem Af2 (lo hi : Int) (W : World) : Calls Tryz.prog 8 #[.int .i64 lo, .int .i64 hi] W (Pure (.agg #[.int .i64 lo, .int .i64 hi]) W) := by
  refine Aa2 Tryz.func8 rfl rfl ?_
  refine st ?_
  refine zn (New.alloc Ac7) (fun b4 => ?_)
  refine lv (Val.build (parts := [(0, .tmp 5), (1, .tmp 6)]) rfl Ac7 Ah7 rfl) ?_
  refine Aa9 (Sto.store rfl rfl .here Ad7 rfl rfl) rfl rfl ?_
  refine su ?_
  exact Aa7 (.r1 rfl (.agg rfl (.head _) Ad7 rfl)) (by first | rfl | simp)
theorem AC6 (a1 a2 a3 a4 a5 a6 a7 a8 a9 : Int) (W : World) : Calls Tryz.prog 38 #[.int .i64 a1, .int .i64 a2, .int .i64 a3, .int .i64 a4, .int .i64 a5, .int .i64 a6, .int .i64 a7, .int .i64 a8, .int .i64 a9] W (Pure (Th.v ⟨⟨a2, a3⟩, ⟨a4, a5⟩, ⟨a6, a7⟩, ⟨a8, a9⟩, a1⟩) W) := by
  refine Aa2 Tryz.func38 rfl rfl ?_
  refine st ?_
  refine zn (New.alloc Av9) (fun b18 => ?_)
  refine zc (zF rfl Ax0) (fun w hm => Af2 _ _ w) ?_
  refine zc (zF rfl Ax0) (fun w hm => Af2 _ _ w) ?_
  refine lv (Val.build (parts := [(0, .tmp 21), (1, .tmp 24)]) rfl Bt0 AY3 rfl) ?_
  refine zc (zF rfl Ax0) (fun w hm => Af2 _ _ w) ?_
  refine zc (zF rfl Ax0) (fun w hm => Af2 _ _ w) ?_
  refine lv (Val.build (parts := [(0, .tmp 28), (1, .tmp 31)]) rfl Bt0 AY3 rfl) ?_
  refine lv (Val.build (parts := [(0, .tmp 25), (1, .tmp 32), (2, .tmp 33)]) rfl Av9 Bw0 rfl) ?_
  refine Aa9 (Sto.store rfl rfl .here Av7 rfl rfl) rfl rfl ?_
  refine su ?_
  exact Aa7 (.r1 rfl (.agg rfl (.head _) Av7 rfl)) (by first | rfl | simp)
abbrev c3O : Obj := .cells (c3.p.things.map Th.cells).flatten.toArray 36 (0, 0)
theorem An5 (W : World) : Calls Tryz.prog 19 #[] W (News (fun b : Nat => c3.v (some ⟨b, 0, none⟩) 2) (fun b => [(b, c3O)]) W) := by
  refine Aa2 Tryz.func19 rfl rfl ?_
  refine st ?_
  refine zn (New.alloc Bs9) (fun b0 => ?_)
  refine zc (zF rfl Ax0) (fun w hm => Af2 _ _ w) ?_
  refine zc (zF rfl Ax0) (fun w hm => Af2 _ _ w) ?_
  refine lv (Val.build (parts := [(0, .tmp 3), (1, .tmp 4), (2, .const (.int .i64 5)), (3, .const (.int .i64 2000)), (4, .const (.int .i64 100000))]) rfl Bd2 Bw1 rfl) ?_
  refine zn (New.alloc Bd2) (fun b2 => ?_)
  refine Aa9 (Sto.store rfl rfl .here AJ7 rfl rfl) rfl rfl ?_
  refine st ?_
  refine Ab3 (Ad1 rfl rfl BP7) rfl rfl rfl (fun w hm => AC6 _ _ _ _ _ _ _ _ _ w) ?_
  refine st ?_
  refine Ab3 (Ad1 rfl rfl BP7) rfl rfl rfl (fun w hm => AC6 _ _ _ _ _ _ _ _ _ w) ?_
  refine zn (New.buildSlice (parts := [(0, .tmp 7), (1, .tmp 9)]) rfl Aw7 Av9 rfl rfl rfl rfl) (fun b10 => ?_)
  refine Aa9 (Sto.store rfl rfl (.there .here) AJ8 rfl rfl) rfl rfl ?_
  refine st ?_
  refine Ae5 2 Al3 (.cons .here rfl (.cons .here rfl (.cons .here rfl .nil))) ?_
  refine zw 0 ?_
  refine zA 1 ?_
  refine Ab4 rfl (zF rfl Ax0) rfl rfl rfl (fun w hm => Af2 _ _ w) (Aa0 (.cons .here rfl (.cons .here rfl (.cons .here rfl .nil))) (.cons .here rfl (.cons .here rfl (.cons .here rfl .nil))) rfl ?_)
  refine zt ?_
  refine zo 2 rfl (Val.build (parts := [(0, .tmp 12), (1, .const (.int .i64 3200)), (2, .const (.int .i64 50)), (3, .const (.int .i64 20)), (4, .tmp 13), (5, .const (.int .i64 300)), (6, .const (.int .i64 900)), (7, .const (.int .i64 100)), (8, .const (.int .i64 200))]) rfl Bs9 Bv9 rfl) ?_
  refine zB 3 ?_
  refine Ab9 rfl (Sto.store rfl rfl (.there (.there .here)) BR9 rfl rfl) rfl rfl (Ab1 ?_)
  refine zd ?_
  refine su ?_
  exact RunE.ret (chg := []) (.r1 rfl (.agg rfl (.tail _ (.tail _ (.head _))) BR9 rfl)) (fun _ hm => ⟨b10, rfl, hm.pick (.cons .here rfl .nil)⟩)
theorem BL5 {b : Nat} {w : World} (h : w.heap[b]? = some c3O) : Sl w (some ⟨b, 0, none⟩) b 0 9 (c3.p.things.map Th.cells) := Sl.rows h (fun x hx => by obtain ⟨a, _, rfl⟩ := List.mem_map.1 hx; rfl)
theorem Cd5 (b : Nat) (W : World) (h : W.heap[b]? = some c3O) : Calls Tryz.prog 39 #[c3.v (some ⟨b, 0, none⟩) 2] W (Pure (.tuple #[.agg #[.int .i64 2, .int .i64 1, .int .i64 0, .int .i64 3], .int .i64 0]) W) := by
  have h1 := Br9 c3 _ b 0 2 W (BL5 h) (by decide)
  rwa [BX4] at h1
theorem AV1 (b : Nat) (W : World) (h : W.heap[b]? = some c3O) : Calls Tryz.prog 40 #[c3.v (some ⟨b, 0, none⟩) 2, .agg #[.int .i64 2, .int .i64 1, .int .i64 0, .int .i64 3]] W (Pure (.tuple #[.agg #[.int .i64 2956, .int .i64 11700], .int .i64 0]) W) := by
  have h1 := Bd1 c3 ⟨2, 1, 0, 3⟩ _ b 0 2 W (BL5 h) (by decide)
  rwa [BC7] at h1
theorem Cd7 (b : Nat) (W : World) (h : W.heap[b]? = some c3O) : Calls Tryz.prog 6 #[c3.p.v (some ⟨b, 0, none⟩) 2, .int .i64 1] W (Pure (.tuple #[.agg #[.int .i64 9591, .int .i64 10241], .int .i64 0]) W) := by
  have h1 := Am3 c3.p 1 _ b 0 2 W (BL5 h) (by decide)
  rwa [BX6] at h1
theorem Cd6 (b : Nat) (W : World) (h : W.heap[b]? = some c3O) : Calls Tryz.prog 14 #[c3.p.v (some ⟨b, 0, none⟩) 2, .int .i64 0, .int .i64 1] W (Pure (.tuple #[.int .i64 2, .int .i64 0]) W) := by
  have h1 := An8 c3.p 0 1 _ b 0 2 W (BL5 h) (by decide)
  rwa [BX5] at h1
set_option maxRecDepth 4000 in
theorem AV3 (W : World) : Calls Tryz.prog 20 #[] W (Pure (.bool true) W) := by
  refine Aa2 Tryz.func20 rfl rfl ?_
  refine st ?_
  refine Ai4 (zF rfl Ba8) rfl rfl rfl (fun w hm => An5 w) (fun b8 => ?_)
  refine zc (zF rfl Cc8) (fun w hm => Cd5 b8 w (hm.at (.head _))) ?_
  refine zn (New.alloc Aj8) (fun b1 => ?_)
  refine Aa9 (Sto.store rfl rfl .here Aq5 rfl rfl) rfl rfl ?_
  refine vp rfl rfl rfl rfl ?_
  refine nnx ?_
  refine RunC.seq ?_
  apply Am2 (J := J2 _ _ _ _ _ _) 8 Al3 (.cons .here rfl (.cons .here rfl .nil))
  ·refine zw 1 ?_
   refine Ae8 (rs := [0, 6]) (by kernel_rfl) (by simp) (by kernel_rfl) (fun m hm => ?_)
   simp only [List.mem_cons, List.not_mem_nil, or_false] at hm
   rcases hm with rfl | rfl
   ·refine Az4 rfl (zF rfl Ba8) rfl rfl rfl (fun w hm => An5 w) (fun b13 => (Aa0 (.cons .here rfl (.cons .here rfl (.cons .here rfl .nil))) (.cons (.there .here) rfl (.cons (.there .here) rfl .nil)) rfl ?_))
    refine Ae8 (rs := [2, 6]) (by kernel_rfl) (by simp) (by kernel_rfl) (fun m hm => ?_)
    simp only [List.mem_cons, List.not_mem_nil, or_false] at hm
    rcases hm with rfl | rfl
    ·refine Ab4 rfl (zF rfl BB7) rfl rfl rfl (fun w hm => AV1 b13 w (hm.at (.head _))) (Aa0 (.cons .here rfl (.cons .here rfl (.cons .here rfl .nil))) (.cons .here rfl (.cons .here rfl (.cons .here rfl .nil))) rfl ?_)
     refine zw 3 ?_
     refine zw 4 ?_
     refine zw 5 ?_
     refine zA 6 ?_
     refine Ac8 rfl (New.alloc Ac7) rfl rfl rfl (fun b3 => (Aa0 (.cons (.there .here) rfl (.cons (.there .here) rfl (.cons (.there .here) rfl .nil))) (.cons .here rfl (.cons .here rfl (.cons .here rfl .nil))) rfl ?_))
     refine zA 7 ?_
     refine Ab9 rfl (Sto.store rfl rfl .here Ad7 rfl rfl) rfl rfl (Aa0 (.cons (.there .here) rfl (.cons (.there .here) rfl (.cons (.there .here) rfl .nil))) (.cons .here rfl (.cons .here rfl (.cons .here rfl .nil))) rfl ?_)
     refine zt ?_
     refine zp 8 ?_
     refine zd ?_
     exact Ae7 b13 b3 (Ab5 _) (Pick.refl _)
    refine Ac8 rfl (New.alloc Ac7) rfl rfl rfl (fun b3 => (Aa0 (.cons (.there .here) rfl (.cons (.there .here) rfl (.cons (.there .here) rfl .nil))) (.cons .here rfl (.cons .here rfl (.cons .here rfl .nil))) rfl ?_))
    refine zA 2 ?_
    refine Ab4 rfl (zF rfl BB7) rfl rfl rfl (fun w hm => AV1 b13 w (hm.at (.tail _ (.head _)))) (Aa0 (.cons (.there .here) rfl (.cons (.there .here) rfl (.cons (.there .here) rfl .nil))) (.cons .here rfl (.cons .here rfl (.cons .here rfl .nil))) rfl ?_)
    refine zw 3 ?_
    refine zw 4 ?_
    refine zw 5 ?_
    refine zA 7 ?_
    refine Ab9 rfl (Sto.store rfl rfl .here Ad7 rfl rfl) rfl rfl (Aa0 (.cons (.there .here) rfl (.cons (.there .here) rfl (.cons (.there .here) rfl .nil))) (.cons .here rfl (.cons .here rfl (.cons .here rfl .nil))) rfl ?_)
    refine zt ?_
    refine zp 8 ?_
    refine zd ?_
    exact Ae7 b13 b3 (zS 4 rfl (zS 3 rfl (zS 17 rfl (zS 16 rfl (zS 12 rfl (zS 15 rfl (zS 13 rfl (zS 14 rfl (Sub.skip rfl (Sub.skip rfl (Sub.skip rfl (Sub.skip rfl (Sub.skip rfl (Sub.skip rfl (Sub.skip rfl (Sub.skip rfl (Ab5 _))))))))))))))))) (.cons .here rfl (.cons .here rfl (.cons .here rfl (.cons .here rfl .nil))))
   refine Ac8 rfl (New.alloc Ac7) rfl rfl rfl (fun b3 => (Aa0 (.cons (.there .here) rfl (.cons (.there .here) rfl .nil)) (.cons .here rfl (.cons .here rfl .nil)) rfl ?_))
   refine zA 0 ?_
   refine Az4 rfl (zF rfl Ba8) rfl rfl rfl (fun w hm => An5 w) (fun b13 => (Aa0 (.cons .here rfl (.cons (.there .here) rfl (.cons (.there .here) rfl .nil))) (.cons (.there .here) rfl (.cons (.there .here) rfl .nil)) rfl ?_))
   refine zA 2 ?_
   refine Ab4 rfl (zF rfl BB7) rfl rfl rfl (fun w hm => AV1 b13 w (hm.at (.head _))) (Aa0 (.cons .here rfl (.cons (.there .here) rfl (.cons (.there .here) rfl .nil))) (.cons .here rfl (.cons .here rfl (.cons .here rfl .nil))) rfl ?_)
   refine zw 3 ?_
   refine zw 4 ?_
   refine zw 5 ?_
   refine zA 7 ?_
   refine Ab9 rfl (Sto.store rfl rfl (.there .here) Ad7 rfl rfl) rfl rfl (Aa0 (.cons .here rfl (.cons (.there .here) rfl (.cons (.there .here) rfl .nil))) (.cons .here rfl (.cons .here rfl (.cons .here rfl .nil))) rfl ?_)
   refine zt ?_
   refine zp 8 ?_
   refine zd ?_
   exact Ae7 b13 b3 (zS 4 rfl (zS 3 rfl (zS 17 rfl (zS 16 rfl (zS 12 rfl (zS 15 rfl (zS 13 rfl (zS 14 rfl (Sub.skip rfl (Sub.skip rfl (Sub.skip rfl (Sub.skip rfl (Sub.skip rfl (Sub.skip rfl (Sub.skip rfl (Sub.skip rfl (Ab5 _))))))))))))))))) (.cons (.there .here) rfl (.cons .here rfl (.cons .here rfl (.cons .here rfl .nil))))
  refine J2.out (fun b13 b3 => ?_)
  refine st ?_
  refine Ai4 (zF rfl Ba8) rfl rfl rfl (fun w hm => An5 w) (fun b19 => ?_)
  refine lv (AR3 rfl AM6) ?_
  refine zc (zF rfl BL0) (fun w hm => Cd7 b19 w (hm.at (.head _))) ?_
  refine zn (New.alloc Ac7) (fun b5 => ?_)
  refine Aa9 (Sto.store rfl rfl .here Ad7 rfl rfl) rfl rfl ?_
  refine st ?_
  refine Ae5 19 Al3 (.cons .here rfl (.cons .here rfl (.cons .here rfl (.cons .here rfl (.cons .here rfl (.cons .here rfl .nil)))))) ?_
  refine zw 0 ?_
  refine zv 1 rfl (Val.build (parts := [(0, .const (.int .i64 2)), (1, .const (.int .i64 1)), (3, .const (.int .i64 3))]) rfl Aj8 Ay0 rfl) ?_
  refine zv 2 rfl (Bc2 rfl rfl BT8 (Ca2 _ _ _ _ _ _ _ _ )) ?_
  refine zw 3 ?_
  refine Aj7 (dj := 27) true rfl (by simp) ?_
  refine zw 4 ?_
  refine zw 5 ?_
  refine zw 6 ?_
  refine zw 7 ?_
  refine Aj7 (dj := 31) true rfl (by simp) ?_
  refine zw 8 ?_
  refine zA 9 ?_
  refine Ab4 rfl (zF rfl Ax0) rfl rfl rfl (fun w hm => Af2 _ _ w) (Aa0 (.cons .here rfl (.cons .here rfl (.cons .here rfl (.cons .here rfl (.cons .here rfl (.cons .here rfl .nil)))))) (.cons .here rfl (.cons .here rfl (.cons .here rfl (.cons .here rfl (.cons .here rfl (.cons .here rfl .nil)))))) rfl ?_)
  refine zv 10 rfl (An7 rfl rfl Ap4) ?_
  refine zw 11 ?_
  refine zw 12 ?_
  refine Aj7 (dj := 36) true rfl (by simp) ?_
  refine zw 13 ?_
  refine zw 14 ?_
  refine zw 15 ?_
  refine zw 16 ?_
  refine Aj7 (dj := 40) true rfl (by simp) ?_
  refine zw 17 ?_
  refine zA 18 ?_
  refine Ab4 rfl (zF rfl Ax0) rfl rfl rfl (fun w hm => Af2 _ _ w) (Aa0 (.cons .here rfl (.cons .here rfl (.cons .here rfl (.cons .here rfl (.cons .here rfl (.cons .here rfl .nil)))))) (.cons .here rfl (.cons .here rfl (.cons .here rfl (.cons .here rfl (.cons .here rfl (.cons .here rfl .nil)))))) rfl ?_)
  refine zt ?_
  refine zo 19 rfl (An7 rfl rfl Ap4) ?_
  refine zp 20 ?_
  refine zp 21 ?_
  refine Ax3 (dj := 45) true rfl (by simp) ?_
  refine zp 22 ?_
  refine zp 23 ?_
  refine zp 24 ?_
  refine zp 25 ?_
  refine zd ?_
  refine su ?_
  exact Aa7 (.r1 rfl (.tmp rfl)) (by first | rfl | simp)
theorem At6 (a b c d e f : Int) (W : World) : Calls Tryz.prog 37 #[.int .i64 a, .int .i64 b, .int .i64 c, .int .i64 d, .int .i64 e, .int .i64 f] W (Pure (Sg.v ⟨a, b, ⟨c, d⟩, ⟨e, f⟩⟩) W) := by
  refine Aa2 Tryz.func37 rfl rfl ?_
  refine st ?_
  refine zn (New.alloc AA3) (fun b12 => ?_)
  refine zc (zF rfl Ax0) (fun w hm => Af2 _ _ w) ?_
  refine zc (zF rfl Ax0) (fun w hm => Af2 _ _ w) ?_
  refine lv (Val.build (parts := [(0, .tmp 13), (1, .tmp 14), (2, .tmp 17), (3, .tmp 20)]) rfl AA3 AY1 rfl) ?_
  refine Aa9 (Sto.store rfl rfl .here AS6 rfl rfl) rfl rfl ?_
  refine su ?_
  exact Aa7 (.r1 rfl (.agg rfl (.head _) AS6 rfl)) (by first | rfl | simp)
abbrev c6O : Obj := .cells (c6L.map Sg.cells).flatten.toArray 43 (0, 0)
def c6A (b : Nat) : ChA := ⟨4, ⟨c6L, some ⟨b, 0, none⟩, b, 0, 3⟩⟩
theorem AU9 (W : World) : Calls Tryz.prog 18 #[] W (News (fun b : Nat => (c6A b).v) (fun b => [(b, c6O)]) W) := by
  refine Aa2 Tryz.func18 rfl rfl ?_
  refine st ?_
  refine zn (New.alloc AS2) (fun b0 => ?_)
  refine Ab3 (Ad1 rfl rfl BB8) rfl rfl rfl (fun w hm => At6 _ _ _ _ _ _ w) ?_
  refine st ?_
  refine Ab3 (Ad1 rfl rfl BB8) rfl rfl rfl (fun w hm => At6 _ _ _ _ _ _ w) ?_
  refine st ?_
  refine Ab3 (Ad1 rfl rfl BB8) rfl rfl rfl (fun w hm => At6 _ _ _ _ _ _ w) ?_
  refine zn (New.buildSlice (parts := [(0, .tmp 3), (1, .tmp 5), (2, .tmp 7)]) rfl AO7 AA3 rfl rfl rfl rfl) (fun b8 => ?_)
  refine lv (Val.build (parts := [(0, .const (.int .i64 4)), (1, .tmp 8)]) rfl AS2 AY2 rfl) ?_
  refine Aa9 (Sto.store rfl rfl (.there .here) AC4 rfl rfl) rfl rfl ?_
  refine su ?_
  exact RunE.ret (chg := []) (.r1 rfl (.agg rfl (.tail _ (.head _)) AC4 rfl)) (fun _ hm => ⟨b8, rfl, hm.pick (.cons .here rfl .nil)⟩)
theorem BX3 (b : Nat) (W : World) (h : W.heap[b]? = some c6O) : Calls Tryz.prog 12 #[(c6A b).v, .int .i64 2] W (Pure (.tuple #[.agg #[.int .i64 153, .int .i64 156], .agg #[.int .i64 (-9), .int .i64 (-6)], .int .i64 0]) W) :=
  AO5 (c6A b) Cf5 BL3 W (Sl.rows h (fun x hx => by obtain ⟨a, _, rfl⟩ := List.mem_map.1 hx; rfl)) 2 ⟨by decide, by show (2 : Int) < 4; decide⟩ ⟨153, 156⟩ ⟨-9, -6⟩ BX2 BL4
set_option maxRecDepth 4000 in
theorem Av5 (W : World) : Calls Tryz.prog 5 #[] W (Pure (.bool true) W) := by
  refine Aa2 Tryz.func5 rfl rfl ?_
  refine st ?_
  refine Ai4 (zF rfl Cd0) rfl rfl rfl (fun w hm => AU9 w) (fun b7 => ?_)
  refine zc (zF rfl BQ1) (fun w hm => BX3 b7 w (hm.at (.head _))) ?_
  refine zn (New.alloc Ac7) (fun b1 => ?_)
  refine zn (New.alloc Ac7) (fun b2 => ?_)
  refine Aa9 (Sto.store rfl rfl (.there .here) Ad7 rfl rfl) rfl rfl ?_
  refine Aa9 (Sto.store rfl rfl .here Ad7 rfl rfl) rfl rfl ?_
  refine st ?_
  refine Ai4 (zF rfl Ba8) rfl rfl rfl (fun w hm => An5 w) (fun b13 => ?_)
  refine lv (AR3 rfl AM6) ?_
  refine zc (zF rfl Ba9) (fun w hm => Cd6 b13 w (hm.at (.head _))) ?_
  refine Ae5 6 Al3 (.cons .here rfl (.cons .here rfl (.cons .here rfl (.cons .here rfl .nil)))) ?_
  refine zw 0 ?_
  refine zA 1 ?_
  refine Ab4 rfl (zF rfl Ax0) rfl rfl rfl (fun w hm => Af2 _ _ w) (Aa0 (.cons .here rfl (.cons .here rfl (.cons .here rfl (.cons .here rfl .nil)))) (.cons .here rfl (.cons .here rfl (.cons .here rfl (.cons .here rfl .nil)))) rfl ?_)
  refine zv 2 rfl (An7 rfl rfl Ap4) ?_
  refine zw 3 ?_
  refine Aj7 (dj := 21) true rfl (by simp) ?_
  refine zw 4 ?_
  refine zA 5 ?_
  refine Ab4 rfl (zF rfl Ax0) rfl rfl rfl (fun w hm => Af2 _ _ w) (Aa0 (.cons .here rfl (.cons .here rfl (.cons .here rfl (.cons .here rfl .nil)))) (.cons .here rfl (.cons .here rfl (.cons .here rfl (.cons .here rfl .nil)))) rfl ?_)
  refine zt ?_
  refine zo 6 rfl (An7 rfl rfl Ap4) ?_
  refine zp 7 ?_
  refine zp 8 ?_
  refine Ax3 (dj := 26) true rfl (by simp) ?_
  refine zp 9 ?_
  refine zp 10 ?_
  refine zp 11 ?_
  refine zp 12 ?_
  refine Ax3 (dj := 30) true rfl (by simp) ?_
  refine zp 13 ?_
  refine zp 14 ?_
  refine zp 15 ?_
  refine zp 16 ?_
  refine Ax3 (dj := 34) true rfl (by simp) ?_
  refine zp 17 ?_
  refine zp 18 ?_
  refine zp 19 ?_
  refine zp 20 ?_
  refine Ax3 (dj := 38) true rfl (by simp) ?_
  refine zq 21 rfl (zF rfl Cc9) (fun w hm => AV3 w) ?_
  refine zp 22 ?_
  refine zp 23 ?_
  refine zd ?_
  refine su ?_
  exact Aa7 (.r1 rfl (.tmp rfl)) (by first | rfl | simp)
end Go.Proofs.YthbiaipagceokaaGreat
namespace Go.Proofs.YthbiaipagceokaaGreat
open Go Go.Eng
theorem Cf8 : apB Tryz.prog 37 = some (43, 6, 48) := by kernel_rfl
theorem BY5 : apB Tryz.prog 41 = some (23, 2, 16) := by kernel_rfl
theorem AC3 : tyB Tryz.prog 40 = some (false, 1) := by kernel_rfl
instance : Tyc Tryz.prog 40 false 1 := ⟨AC3⟩
theorem AW3 : tyB Tryz.prog 41 = some (false, 1) := by kernel_rfl
instance : Tyc Tryz.prog 41 false 1 := ⟨AW3⟩
end Go.Proofs.YthbiaipagceokaaGreat
namespace Go.Eng
open Go Go.RowKit
section
variable {P : Program} {ops : Array Oper} {Q : Exit → Act → World → Prop} {n i : Nat} {K : Act → World → Prop} {r : Regs} {ds : List Deferred} {W : World} {chg news : Blks}
theorem Ax2 (A X Y C : Blks) (hn : news = A ++ (X ++ (Y ++ C))) (h : RunI P ops Q n i K r ds W chg (A ++ (Y ++ (X ++ C)))) : RunI P ops Q n i K r ds W chg news := by
  subst hn
  exact BD7 (Ab5 _) (Pick.cnt fun x => by simp only [List.count_append]; omega) h
end
end Go.Eng
namespace Go.Ct
open Go Go.Eng Go.Pw1
def thC (i : Nat) : List Value := [.int .i64 (i : Int)]
def spC (s : Pw1.Sp) : List Value := [.int .i64 s.lo, .int .i64 s.hi]
theorem BK7 {α β : Type} (f : α → List β) (l : List α) (a : α) : ((l ++ [a]).map f).flatten = (l.map f).flatten ++ f a := by simp
structure AZ where
  s : AS
  ot : Eng.Own
  os : Eng.Own
  oc : Eng.Own
structure AzOk (x : Pr) (z : AZ) : Prop where
  st : AsOk x z.s
  ot : OwnOk 1 z.ot z.s.th.length (z.s.th.map thC).flatten
  os : OwnOk 2 z.os z.s.sp.length (z.s.sp.map spC).flatten
  oc : OwnOk 6 z.oc z.s.sp.length ((stS z.s.sp).map Sg.cells).flatten
section
variable {P : Program} {W0 : World} {chg : Blks} {β : Type} {v : β → Value} {nw nw' : β → Blks} {I : β → Prop} {f : FuncId} {args : Array Value} {w : World}
theorem Bb5 (h : Calls P f args w (Grow W0 chg v nw I)) (h1 : ∀ b, Pick (nw' b) (nw b)) : Calls P f args w (Grow W0 chg v nw' I) :=
  h.mono fun e w' hR => by
    obtain ⟨b, hI, he, hm⟩ := hR
    exact ⟨b, hI, he, hm.pick (h1 b)⟩
end
end Go.Ct
namespace Go.Proofs.YthbiaipagceokaaGreat
open Go Go.Eng Go.Ct Go.RowKit
open Go.Pw1 (Th Pr Sp distX b2v isB allS)
abbrev xO (x : Pr) (zx : Eng.Own) : Obj := .cells (x.cells (ownQ zx) (ownC zx)).toArray 26 (0, 0)
abbrev azM (x : Pr) (zx : Eng.Own) (x11 x12 x13 x14 : Nat) (z : AZ) (rest : Blks) : Blks := (x11, xO x zx) :: (x12, .cells [Value.int .i64 ((z.s.sp.length + 1 : Nat) : Int), ownV z.oc z.s.sp.length].toArray 39 (0, 0)) :: (x13, .cells [ownV z.ot z.s.th.length].toArray 40 (0, 0)) :: (x14, .cells [ownV z.os z.s.sp.length].toArray 41 (0, 0)) :: (ownB 36 zx (x.things.map Th.cells).flatten ++ (ownB 3 z.ot ((z.s.th).map thC).flatten ++ (ownB 23 z.os ((z.s.sp).map spC).flatten ++ (ownB 43 z.oc ((stS z.s.sp).map Sg.cells).flatten ++ rest))))
set_option maxHeartbeats 1000000 in
theorem Bb8 (x : Pr) (hx : x.Ok) (hw : isB (allS x) = true) (x11 x12 x13 x14 : Nat) (zx : Eng.Own) (hzx : OwnOk 9 zx x.things.length (x.things.map Th.cells).flatten) (z : AZ) (hz : AzOk x z) (i : Nat) (hi : i < x.things.length) (W0 : World) (rest : Blks) (w0 : World) (hm0 : Mem W0 [] (azM x zx x11 x12 x13 x14 z rest) w0) :
    Calls Tryz.prog 7 #[.int .i64 (i : Int), pV x11, pV x12, pV x13, pV x14] w0 (Grow W0 [] (fun _ : AZ => .bool true) (fun z' => azM x zx x11 x12 x13 x14 z' rest) (fun z' => AzOk x z' ∧ z'.s = addX x z.s i)) := by
  have hlen := hx.len
  have hfew := hz.st.few
  have htl := hz.st.len
  have hm1 : Mem W0 [] ((x11, xO x zx) :: (x12, .cells [Value.int .i64 ((z.s.sp.length + 1 : Nat) : Int), ownV z.oc z.s.sp.length].toArray 39 (0, 0)) :: (x13, .cells [ownV z.ot z.s.th.length].toArray 40 (0, 0)) :: (x14, .cells [ownV z.os z.s.sp.length].toArray 41 (0, 0)) :: (ownB 36 zx (x.things.map Th.cells).flatten ++ (ownB 3 z.ot ((z.s.th).map thC).flatten ++ (ownB 23 z.os ((z.s.sp).map spC).flatten ++ (ownB 43 z.oc ((stS z.s.sp).map Sg.cells).flatten ++ (rest ++ [])))))) w0 := by
    have h := hm0
    rw [← List.append_nil rest] at h
    exact h
  have hxs : ∀ w, (∀ b o, (b, o) ∈ ownB 36 zx (x.things.map Th.cells).flatten → w.heap[b]? = some o) → Sl w (ownQ zx) (ownK zx) 0 9 (x.things.map Th.cells) := fun w h => Ai6 (f := Th.cells) (fun _ => rfl) (by decide) hzx h
  rcases BW9 hx hw hi with ⟨hd, -, -⟩ | hd
  · obtain ⟨⟨d1, d2⟩, hd1⟩ : ∃ d, (distX x (i : Int)).1 = d := ⟨_, rfl⟩
    have hdx : distX x (i : Int) = ((d1, d2), 0) := by rw [← hd1, ← hd]
    have hsp : spD x i = ⟨d1, d2⟩ := by unfold spD; rw [hd1]
    refine AG3 hm1 Tryz.func7 rfl rfl ?_
    refine csr ?_
    refine vp rfl rfl rfl rfl ?_
    refine nsr ?_
    refine Aa1 (Ac4 rfl (.head _) AJ7 rfl) rfl rfl rfl ?_
    refine vp rfl rfl rfl rfl ?_
    refine Ab3 (Ab7 rfl BL0) rfl rfl rfl (fun w hm => (by have h9 := Am3 x (i : Int) (ownQ zx) (ownK zx) 0 (ownC zx) w (hxs w (fun _ _ h => hm.at (.tail _ (.tail _ (.tail _ (.tail _ ((by first | exact List.mem_append_left _ h | exact List.mem_append_right _ (List.mem_append_left _ h))))))))) (by omega); rw [hdx] at h9; exact h9)) ?_
    iterate 3 refine vp rfl rfl rfl rfl ?_
    refine Ad9 (New.alloc Ac7) rfl rfl rfl (fun b7 => ?_)
    refine Aa9 (Sto.store rfl rfl .here Ad7 rfl rfl) rfl rfl ?_
    refine vp rfl rfl rfl rfl ?_
    refine nnx ?_
    refine RunC.seq ?_
    refine csr ?_
    refine vp rfl rfl rfl rfl ?_
    refine vp rfl rfl rfl rfl ?_
    refine nnx ?_
    refine RunC.cond rfl (fun h => absurd h (by simp)) ?_
    intro c0
    clear c0
    refine RunC.skip ?_
    refine RunE.next ?_
    refine RunC.seq ?_
    refine csr ?_
    refine Aa1 (Val.fieldAddr rfl Aj9) rfl rfl rfl ?_
    refine Aa1 (Aa3 rfl (.tail _ (.tail _ (.head _))) Ag0 rfl) rfl rfl rfl ?_
    refine vp rfl rfl rfl rfl ?_
    refine nnx ?_
    refine RunC.cond rfl ?_ ?_
    ·intro c1
     have c1' := c1; clear c1
     try simp only [nH] at c1'
     refine csr ?_
     refine As9 (Ab5 _) (news' := (b7, .cells [Value.int .i64 d1, .int .i64 d2].toArray 23 (0, 0)) :: (x11, xO x zx) :: (x12, .cells [Value.int .i64 ((z.s.sp.length + 1 : Nat) : Int), ownV z.oc z.s.sp.length].toArray 39 (0, 0)) :: (x13, .cells [ownV z.ot z.s.th.length].toArray 40 (0, 0)) :: (x14, .cells [ownV z.os z.s.sp.length].toArray 41 (0, 0)) :: (ownB 43 z.oc ((stS z.s.sp).map Sg.cells).flatten ++ (ownB 36 zx (x.things.map Th.cells).flatten ++ (ownB 3 z.ot ((z.s.th).map thC).flatten ++ (ownB 23 z.os ((z.s.sp).map spC).flatten ++ (rest ++ [])))))) (Pick.cnt fun x => by simp only [nC, azM]; omega) ?_
     refine Aa1 (Val.fieldAddr rfl Ay7) rfl rfl rfl ?_
     refine Aa1 (Aa3 rfl (.tail _ (.tail _ (.head _))) Bd5 rfl) rfl rfl rfl ?_
     refine Aa1 (Val.fieldAddr rfl Aj9) rfl rfl rfl ?_
     refine Aa1 (Aa3 rfl (.tail _ (.tail _ (.head _))) Ag0 rfl) rfl rfl rfl ?_
     refine Aa1 (Ac4 rfl (.head _) Ad7 rfl) rfl rfl rfl ?_
     refine Aa1 (Val.build (parts := [(1, .tmp 25), (2, .tmp 26)]) rfl AA3 AY1 rfl) rfl rfl rfl ?_
     refine Ad9 (New.buildSlice (parts := [(0, .tmp 27)]) rfl AO7 AA3 rfl rfl rfl rfl) rfl rfl rfl (fun b28 => ?_)
     refine RunL.append (A := [(b28, _), (b7, _), (x11, _), (x12, _), (x13, _), (x14, _)]) (B := _) (x := z.oc) (ys := (Sg.cells (⟨0, ((z.s.sp.length + 1 : Nat) : Int), ⟨d1, d2⟩, zSp⟩ : Sg))) Cf8 rfl rfl rfl hz.oc rfl (fun h => by cases h) (fun w hm => Ak1 (hm.at (.head _))) (Ao6 rfl) (by simp only [maxLen]; omega) (by omega) rfl (fun z29 hz29 => ?_)
     refine Aa1 (Val.fieldAddr rfl Ay7) rfl rfl rfl ?_
     refine Aa9 (Aj1 rfl rfl (.there (.there (.there .here))) Bd5 rfl rfl) rfl rfl ?_
     refine nsr ?_
     refine As9 (Ab5 _) (news' := (b7, .cells [Value.int .i64 d1, .int .i64 d2].toArray 23 (0, 0)) :: (x11, xO x zx) :: (x12, .cells [Value.int .i64 ((z.s.sp.length + 1 : Nat) : Int), ownV z29 (z.s.sp.length + 1)].toArray 39 (0, 0)) :: (x13, .cells [ownV z.ot z.s.th.length].toArray 40 (0, 0)) :: (x14, .cells [ownV z.os z.s.sp.length].toArray 41 (0, 0)) :: (ownB 3 z.ot ((z.s.th).map thC).flatten ++ (ownB 23 z.os ((z.s.sp).map spC).flatten ++ (ownB 43 z29 (((stS z.s.sp).map Sg.cells).flatten ++ Sg.cells (⟨0, ((z.s.sp.length + 1 : Nat) : Int), ⟨d1, d2⟩, zSp⟩ : Sg)) ++ (ownB 36 zx (x.things.map Th.cells).flatten ++ (rest ++ [])))))) (Pick.cnt fun x => by simp only [nC, Nat.zero_add, List.set_cons_succ, List.set_cons_zero]; omega) ?_
     refine Aa1 (Val.fieldAddr rfl Aj9) rfl rfl rfl ?_
     refine Aa1 (Aa3 rfl (.tail _ (.tail _ (.head _))) Ag0 rfl) rfl rfl rfl ?_
     refine Aa1 (Val.add rfl rfl (IntWalk.i64_in _ ⟨by omega, by omega⟩)) rfl rfl rfl ?_
     refine Aa1 (Val.fieldAddr rfl Aj9) rfl rfl rfl ?_
     refine Aa9 (Sto.store rfl rfl (.there (.there .here)) Ag0 rfl rfl) rfl rfl ?_
     refine nnx ?_
     refine Ap2 (X := Eng.Own × Eng.Own) 7 (n0 := [(x11, _), (x12, _)]) (fun y q => q) (fun y => []) (fun y => [(x13, .cells [ownV y.1 (z.s.th.length + 1)].toArray 40 (0, 0)), (x14, .cells [ownV y.2 (z.s.sp.length + 1)].toArray 41 (0, 0))]) (fun y => ownB 3 y.1 ((z.s.th.map thC).flatten ++ thC i) ++ (ownB 23 y.2 ((z.s.sp.map spC).flatten ++ spC ⟨d1, d2⟩) ++ (ownB 43 z29 (((stS z.s.sp).map Sg.cells).flatten ++ Sg.cells (⟨0, ((z.s.sp.length + 1 : Nat) : Int), ⟨d1, d2⟩, zSp⟩ : Sg)) ++ (ownB 36 zx (x.things.map Th.cells).flatten ++ (rest ++ []))))) (fun y => OwnOk 1 y.1 (z.s.th.length + 1) ((z.s.th.map thC).flatten ++ thC i) ∧ OwnOk 2 y.2 (z.s.sp.length + 1) ((z.s.sp.map spC).flatten ++ spC ⟨d1, d2⟩)) Al3 (.cons .here rfl (.cons .here rfl (.cons .here rfl (.cons .here rfl (.cons .here rfl .nil))))) (Sub.nil _) (.cons (.there .here) rfl (.cons (.there .here) rfl .nil)) ?_ ?_
     ·refine va 0 rfl (Aa3 rfl (.tail _ (.tail _ (.tail _ (.head _)))) AC3 rfl) rfl rfl rfl (.cons .here rfl (.cons .here rfl (.cons .here rfl (.cons .here rfl (.cons .here rfl .nil))))) rfl ?_
      refine va 1 rfl (Aa5 rfl) rfl rfl rfl (.cons .here rfl (.cons .here rfl (.cons .here rfl (.cons .here rfl (.cons .here rfl .nil))))) rfl ?_
      refine va 4 rfl (Aa3 rfl (.tail _ (.tail _ (.tail _ (.tail _ (.head _))))) AW3 rfl) rfl rfl rfl (.cons .here rfl (.cons .here rfl (.cons .here rfl (.cons .here rfl (.cons .here rfl .nil))))) rfl ?_
      refine va 5 rfl (Ac4 rfl (.head _) Ad7 rfl) rfl rfl rfl (.cons .here rfl (.cons .here rfl (.cons .here rfl (.cons .here rfl (.cons .here rfl .nil))))) rfl ?_
      refine Ae8 (rs := [2, 6]) (by kernel_rfl) (by simp) (by kernel_rfl) (fun m hm => ?_)
      simp only [List.mem_cons, List.not_mem_nil, or_false] at hm
      rcases hm with rfl | rfl
      ·refine Ac8 rfl (New.buildSlice (parts := [(0, .tmp 36)]) rfl Am6 Az7 rfl rfl rfl rfl) rfl rfl rfl (fun b37 => (Aa0 (.cons .here rfl (.cons .here rfl (.cons .here rfl (.cons .here rfl (.cons .here rfl (.cons .here rfl .nil)))))) (.cons (.there .here) rfl (.cons (.there .here) rfl (.cons (.there .here) rfl (.cons (.there .here) rfl (.cons (.there .here) rfl .nil))))) rfl ?_))
       refine Ae8 (rs := [3, 6]) (by kernel_rfl) (by simp) (by kernel_rfl) (fun m hm => ?_)
       simp only [List.mem_cons, List.not_mem_nil, or_false] at hm
       rcases hm with rfl | rfl
       ·refine RunI.append (A := [(b37, _), (b7, _), (x11, _), (x12, _), (x13, _), (x14, _)]) (B := _) (x := z.ot) (ys := (thC i)) rfl BL6 rfl rfl rfl hz.ot rfl (fun h => by cases h) (fun w hm => Ak1 (hm.at (.head _))) (Ao6 rfl) (by simp only [maxLen]; omega) (by omega) rfl (fun z38 hz38 => (Aa0 (.cons .here rfl (.cons .here rfl (.cons .here rfl (.cons .here rfl (.cons .here rfl (.cons .here rfl .nil)))))) (.cons .here rfl (.cons .here rfl (.cons .here rfl (.cons .here rfl (.cons .here rfl (.cons .here rfl .nil)))))) rfl ?_))
        refine RunA.one (i := 6) (by kernel_rfl) (by kernel_rfl) ?_
        refine Ac8 rfl (New.buildSlice (parts := [(0, .tmp 40)]) rfl AH7 Ac7 rfl rfl rfl rfl) rfl rfl rfl (fun b41 => (Aa0 (.cons .here rfl (.cons .here rfl (.cons .here rfl (.cons .here rfl (.cons .here rfl (.cons .here rfl (.cons .here rfl .nil))))))) (.cons (.there .here) rfl (.cons (.there .here) rfl (.cons (.there .here) rfl (.cons (.there .here) rfl (.cons (.there .here) rfl (.cons (.there .here) rfl .nil)))))) rfl ?_))
        refine Af4 (by kernel_rfl) ?_
        refine RunB.one (i := 7) (by kernel_rfl) ?_
        refine Ax2 [(b41, _), (b37, _), (b7, _), (x11, _), (x12, _), (x13, _), (x14, _)] _ _ _ rfl ?_
        refine RunI.append (A := [(b41, _), (b37, _), (b7, _), (x11, _), (x12, _), (x13, _), (x14, _)]) (B := _) (x := z.os) (ys := (spC ⟨d1, d2⟩)) rfl BY5 rfl rfl rfl hz.os rfl (fun h => by cases h) (fun w hm => Ak1 (hm.at (.head _))) (Ao6 rfl) (by simp only [maxLen]; omega) (by omega) rfl (fun z42 hz42 => (Ab1 ?_))
        refine RunB.one (i := 8) (by kernel_rfl) ?_
        refine Ab9 rfl (Aj1 rfl rfl (.there (.there (.there (.there (.there .here))))) AC3 rfl rfl) rfl rfl (Ab1 ?_)
        refine RunB.one (i := 9) (by kernel_rfl) ?_
        refine Ab9 rfl (Aj1 rfl rfl (.there (.there (.there (.there (.there (.there .here)))))) AW3 rfl rfl) rfl rfl (Ab1 ?_)
        refine RunB.done (by kernel_rfl) ?_
        exact Ag1 (z38, z42) ⟨hz38, hz42⟩ rfl (Sub.nil _) (.cons (.there (.there (.there (.there (.there .here))))) rfl (.cons (.there (.there (.there (.there (.there .here))))) rfl (.cons (.there (.there (.there .here))) rfl (.cons (.there (.there (.there .here))) rfl (Pick.skip (Pick.skip (Pick.skip (Pick.cnt fun x => by simp only [nC, azM]; omega))))))))
       refine Ac8 rfl (New.buildSlice (parts := [(0, .tmp 40)]) rfl AH7 Ac7 rfl rfl rfl rfl) rfl rfl rfl (fun b41 => (Aa0 (.cons .here rfl (.cons .here rfl (.cons .here rfl (.cons .here rfl (.cons .here rfl (.cons .here rfl (.cons .here rfl .nil))))))) (.cons (.there .here) rfl (.cons (.there .here) rfl (.cons (.there .here) rfl (.cons (.there .here) rfl (.cons (.there .here) rfl (.cons (.there .here) rfl .nil)))))) rfl ?_))
       refine RunA.one (i := 3) (by kernel_rfl) (by kernel_rfl) ?_
       refine RunI.append (A := [(b41, _), (b37, _), (b7, _), (x11, _), (x12, _), (x13, _), (x14, _)]) (B := _) (x := z.ot) (ys := (thC i)) rfl BL6 rfl rfl rfl hz.ot rfl (fun h => by cases h) (fun w hm => Ak1 (hm.at (.tail _ (.head _)))) (Ao6 rfl) (by simp only [maxLen]; omega) (by omega) rfl (fun z38 hz38 => (Aa0 (.cons .here rfl (.cons .here rfl (.cons .here rfl (.cons .here rfl (.cons .here rfl (.cons .here rfl (.cons .here rfl .nil))))))) (.cons .here rfl (.cons .here rfl (.cons .here rfl (.cons .here rfl (.cons .here rfl (.cons .here rfl (.cons .here rfl .nil))))))) rfl ?_))
       refine Af4 (by kernel_rfl) ?_
       refine RunB.one (i := 7) (by kernel_rfl) ?_
       refine Ax2 [(b41, _), (b37, _), (b7, _), (x11, _), (x12, _), (x13, _), (x14, _)] _ _ _ rfl ?_
       refine RunI.append (A := [(b41, _), (b37, _), (b7, _), (x11, _), (x12, _), (x13, _), (x14, _)]) (B := _) (x := z.os) (ys := (spC ⟨d1, d2⟩)) rfl BY5 rfl rfl rfl hz.os rfl (fun h => by cases h) (fun w hm => Ak1 (hm.at (.head _))) (Ao6 rfl) (by simp only [maxLen]; omega) (by omega) rfl (fun z42 hz42 => (Ab1 ?_))
       refine RunB.one (i := 8) (by kernel_rfl) ?_
       refine Ab9 rfl (Aj1 rfl rfl (.there (.there (.there (.there (.there .here))))) AC3 rfl rfl) rfl rfl (Ab1 ?_)
       refine RunB.one (i := 9) (by kernel_rfl) ?_
       refine Ab9 rfl (Aj1 rfl rfl (.there (.there (.there (.there (.there (.there .here)))))) AW3 rfl rfl) rfl rfl (Ab1 ?_)
       refine RunB.done (by kernel_rfl) ?_
       exact Ag1 (z38, z42) ⟨hz38, hz42⟩ rfl (Sub.nil _) (.cons (.there (.there (.there (.there (.there .here))))) rfl (.cons (.there (.there (.there (.there (.there .here))))) rfl (.cons (.there (.there (.there .here))) rfl (.cons (.there (.there (.there .here))) rfl (Pick.skip (Pick.skip (Pick.skip (Pick.cnt fun x => by simp only [nC, azM]; omega))))))))
      refine Ac8 rfl (New.buildSlice (parts := [(0, .tmp 40)]) rfl AH7 Ac7 rfl rfl rfl rfl) rfl rfl rfl (fun b41 => (Aa0 (.cons .here rfl (.cons .here rfl (.cons .here rfl (.cons .here rfl (.cons .here rfl (.cons .here rfl .nil)))))) (.cons (.there .here) rfl (.cons (.there .here) rfl (.cons (.there .here) rfl (.cons (.there .here) rfl (.cons (.there .here) rfl .nil))))) rfl ?_))
      refine RunA.one (i := 2) (by kernel_rfl) (by kernel_rfl) ?_
      refine Ac8 rfl (New.buildSlice (parts := [(0, .tmp 36)]) rfl Am6 Az7 rfl rfl rfl rfl) rfl rfl rfl (fun b37 => (Aa0 (.cons .here rfl (.cons .here rfl (.cons .here rfl (.cons .here rfl (.cons .here rfl (.cons .here rfl (.cons .here rfl .nil))))))) (.cons (.there .here) rfl (.cons (.there .here) rfl (.cons (.there .here) rfl (.cons (.there .here) rfl (.cons (.there .here) rfl (.cons (.there .here) rfl .nil)))))) rfl ?_))
      refine RunA.one (i := 3) (by kernel_rfl) (by kernel_rfl) ?_
      refine RunI.append (A := [(b37, _), (b41, _), (b7, _), (x11, _), (x12, _), (x13, _), (x14, _)]) (B := _) (x := z.ot) (ys := (thC i)) rfl BL6 rfl rfl rfl hz.ot rfl (fun h => by cases h) (fun w hm => Ak1 (hm.at (.head _))) (Ao6 rfl) (by simp only [maxLen]; omega) (by omega) rfl (fun z38 hz38 => (Aa0 (.cons .here rfl (.cons .here rfl (.cons .here rfl (.cons .here rfl (.cons .here rfl (.cons .here rfl (.cons .here rfl .nil))))))) (.cons .here rfl (.cons .here rfl (.cons .here rfl (.cons .here rfl (.cons .here rfl (.cons .here rfl (.cons .here rfl .nil))))))) rfl ?_))
      refine Af4 (by kernel_rfl) ?_
      refine RunB.one (i := 7) (by kernel_rfl) ?_
      refine Ax2 [(b37, _), (b41, _), (b7, _), (x11, _), (x12, _), (x13, _), (x14, _)] _ _ _ rfl ?_
      refine RunI.append (A := [(b37, _), (b41, _), (b7, _), (x11, _), (x12, _), (x13, _), (x14, _)]) (B := _) (x := z.os) (ys := (spC ⟨d1, d2⟩)) rfl BY5 rfl rfl rfl hz.os rfl (fun h => by cases h) (fun w hm => Ak1 (hm.at (.tail _ (.head _)))) (Ao6 rfl) (by simp only [maxLen]; omega) (by omega) rfl (fun z42 hz42 => (Ab1 ?_))
      refine RunB.one (i := 8) (by kernel_rfl) ?_
      refine Ab9 rfl (Aj1 rfl rfl (.there (.there (.there (.there (.there .here))))) AC3 rfl rfl) rfl rfl (Ab1 ?_)
      refine RunB.one (i := 9) (by kernel_rfl) ?_
      refine Ab9 rfl (Aj1 rfl rfl (.there (.there (.there (.there (.there (.there .here)))))) AW3 rfl rfl) rfl rfl (Ab1 ?_)
      refine RunB.done (by kernel_rfl) ?_
      exact Ag1 (z38, z42) ⟨hz38, hz42⟩ rfl (Sub.nil _) (.cons (.there (.there (.there (.there (.there .here))))) rfl (.cons (.there (.there (.there (.there (.there .here))))) rfl (.cons (.there (.there (.there .here))) rfl (.cons (.there (.there (.there .here))) rfl (Pick.skip (Pick.skip (Pick.skip (Pick.cnt fun x => by simp only [nC, azM]; omega))))))))
     intro y yI
     obtain ⟨hy1, hy2⟩ := yI
     refine RunE.next ?_
     refine csr ?_
     refine vp rfl rfl rfl rfl ?_
     refine nnx ?_
     refine RunC.ret ?_
     exact AN7 (⟨⟨z.s.th ++ [i], z.s.sp ++ [⟨d1, d2⟩]⟩, y.1, y.2, z29⟩ : AZ) ⟨⟨(hsp ▸ AI9 (x := x) (s := z.s) (i := i) (by rw [hdx]) (by omega) ▸ hz.st.add hi), (by rw [BK7, List.length_append]; exact hy1), (by rw [BK7, List.length_append]; exact hy2), (by rw [Bi8, BK7, List.length_append]; exact hz29)⟩, (by rw [AI9 (by rw [hdx]) (by omega), hsp])⟩ (.r1 rfl (.tmp rfl)) rfl (Pick.cnt fun x => by simp only [azM, BK7, Bi8, List.length_append, List.length_cons, List.length_nil, Nat.zero_add, Int.natCast_add, Int.cast_ofNat_Int, nC]; omega)
    intro c1
    have c1' := c1; clear c1
    try simp only [nH] at c1'
    refine RunC.skip ?_
    refine RunE.next ?_
    refine csr ?_
    refine vp rfl rfl rfl rfl ?_
    refine nnx ?_
    refine RunC.ret ?_
    exact AN7 z ⟨hz, (BL9 (by omega)).symm⟩ (.r1 rfl (.tmp rfl)) rfl (Pick.cnt fun x => by simp only [nC, azM]; omega)
  · have hdx : ∃ d1 d2, distX x (i : Int) = ((d1, d2), 11) := ⟨(distX x (i : Int)).1.1, (distX x (i : Int)).1.2, by rw [← hd]⟩
    obtain ⟨d1, d2, hdx⟩ := hdx
    refine AG3 hm1 Tryz.func7 rfl rfl ?_
    refine csr ?_
    refine vp rfl rfl rfl rfl ?_
    refine nsr ?_
    refine Aa1 (Ac4 rfl (.head _) AJ7 rfl) rfl rfl rfl ?_
    refine vp rfl rfl rfl rfl ?_
    refine Ab3 (Ab7 rfl BL0) rfl rfl rfl (fun w hm => (by have h9 := Am3 x (i : Int) (ownQ zx) (ownK zx) 0 (ownC zx) w (hxs w (fun _ _ h => hm.at (.tail _ (.tail _ (.tail _ (.tail _ ((by first | exact List.mem_append_left _ h | exact List.mem_append_right _ (List.mem_append_left _ h))))))))) (by omega); rw [hdx] at h9; exact h9)) ?_
    iterate 3 refine vp rfl rfl rfl rfl ?_
    refine Ad9 (New.alloc Ac7) rfl rfl rfl (fun b7 => ?_)
    refine Aa9 (Sto.store rfl rfl .here Ad7 rfl rfl) rfl rfl ?_
    refine vp rfl rfl rfl rfl ?_
    refine nnx ?_
    refine RunC.seq ?_
    refine csr ?_
    refine vp rfl rfl rfl rfl ?_
    refine vp rfl rfl rfl rfl ?_
    refine nnx ?_
    refine RunC.cond rfl ?_ (fun h => absurd h (by simp))
    intro c0
    clear c0
    refine csr ?_
    iterate 3 refine vp rfl rfl rfl rfl ?_
    refine nnx ?_
    refine RunC.ret ?_
    refine Ad6 ?_
    exact AN7 z ⟨hz, (BL8 (by rw [hd]; decide)).symm⟩ (.r1 rfl (.tmp rfl)) rfl (Pick.cnt fun x => by simp only [nC, azM]; omega)
end Go.Proofs.YthbiaipagceokaaGreat
namespace Go.Ct
open Go Go.Eng Go.Pw1
theorem BX0 {p : Pr} (hp : p.Ok) {n : Int} (ht : thingR p n = true) (h : ¬ (distX p n).2 = 0) : (distX p n).1 = (0, 0) ∧ ((distX p n).2 = 4 ∨ (distX p n).2 = 11) := by
  by_cases hw : isB (allS p) = true
  · rw [Bg3 hp ht hw] at h ⊢
    split at h
    · exact absurd rfl h
    · rename_i hs
      rw [if_neg hs]
      exact ⟨rfl, .inr rfl⟩
  · have hwf : isB (allS p) = false := by simpa using hw
    rw [AM8]
    unfold distR openR
    simp [AD1 hp, ht, hwf]
theorem BT2 {p : Pr} {k : Nat} (hk : k < p.things.length) {t : Th} (ht : p.things[k] = t) (F : Int) : (markP p k F).things = p.things.set k { t with far := F } := by
  show p.things.set k { thingAt p (k : Int) with far := F } = _
  rw [Ae6 hk ht]
theorem BI6 (p : Pr) (k : Nat) (F : Int) : (markP p k F).things.length = p.things.length := by simp [markP]
theorem AsOk.rng {x : Pr} {s : AS} (h : AsOk x s) : ∀ t ∈ s.sp, -1073741824 ≤ t.lo ∧ t.lo ≤ t.hi ∧ t.hi ≤ 1073741824 := fun t ht => by
  obtain ⟨j, hj, rfl⟩ := List.mem_iff_getElem.1 ht
  obtain ⟨h1, h2, h3⟩ := h.at' j (by rw [h.len]; exact hj)
  rw [List.getD_eq_getElem?_getD, List.getElem?_eq_getElem hj] at h3
  have h4 := AU4 h2
  have hp := (AU5 h2).1
  have n1 := hp.n1
  have n3 := hp.n3
  rw [show s.sp[j] = spD x (s.th.getD j 0) from h3]
  unfold spD
  exact ⟨by show _ ≤ (distX x _).1.1; omega, h4.2.1, by show (distX x _).1.2 ≤ _; omega⟩
abbrev chV (sp : List Pw1.Sp) (oc : Eng.Own) : Value := .agg #[.int .i64 ((sp.length + 1 : Nat) : Int), ownV oc sp.length]
def stA (sp : List Pw1.Sp) (oc : Eng.Own) : ChA := ⟨((sp.length + 1 : Nat) : Int), ⟨stS sp, ownQ oc, ownK oc, 0, ownC oc⟩⟩
theorem Bu4 {sp : List Pw1.Sp} {oc : Eng.Own} (h : OwnOk 6 oc sp.length ((stS sp).map Sg.cells).flatten) : (stA sp oc).v = chV sp oc := by
  unfold chV
  rw [Af8 h]
  show Value.agg #[_, .slice _ (stS sp).length _] = _
  rw [Aw5]
  rfl
end Go.Ct
namespace Go.Proofs.YthbiaipagceokaaGreat
open Go Go.Eng Go.Ct Go.RowKit
open Go.Pw1 (Th Pr Sp distX b2v isB allS)
section
variable (sp : List Pw1.Sp) (oc : Eng.Own) (hl : sp.length ≤ 7) (hsp : ∀ s ∈ sp, -1073741824 ≤ s.lo ∧ s.lo ≤ s.hi ∧ s.hi ≤ 1073741824) (hoc : OwnOk 6 oc sp.length ((stS sp).map Sg.cells).flatten) (W : World) (hW : ∀ b o, (b, o) ∈ ownB 43 oc ((stS sp).map Sg.cells).flatten → W.heap[b]? = some o)
include hl hsp hoc hW
theorem AW7 : (stA sp oc).Ok W := show Sl W (ownQ oc) (ownK oc) 0 6 ((stS sp).map Sg.cells) from Ai6 (f := Sg.cells) (fun _ => rfl) (by decide) hoc hW
theorem Ce6 : Calls Tryz.prog 9 #[chV sp oc] W (News (fun z : OCs (drawL (star sp) (sp.length + 1)) => .tuple #[ownV z.1 (sp.length + 1), .int .i64 0]) (fun z => ownB 54 z.1 ((drawL (star sp) (sp.length + 1)).map Spt.cells).flatten ++ []) W) := by
  have h := Bs8 (stA sp oc) (AK3 hsp hl) Ar9 W (AW7 sp oc hl hsp hoc W hW) (Be0 hsp) (sp.length + 1) (by show ((sp.length + 1 : Nat) : Int).toNat = _; omega)
  rwa [Bu4 hoc] at h
theorem Cg1 : Calls Tryz.prog 10 #[chV sp oc] W (Pure (.tuple #[.int .i64 0, .int .i64 0]) W) := by
  have h := BM0 (stA sp oc) (AK3 hsp hl) Ar9 W (AW7 sp oc hl hsp hoc W hW)
  rwa [Bu4 hoc] at h
theorem Ce5 : Calls Tryz.prog 11 #[chV sp oc] W (Pure (.tuple #[.int .i64 0, .int .i64 0]) W) := by
  have h := BE1 (stA sp oc) (AK3 hsp hl) Ar9 W (AW7 sp oc hl hsp hoc W hW) Bu3
  rwa [Bu4 hoc] at h
theorem BZ8 {j : Nat} (hj : j < sp.length) : Calls Tryz.prog 12 #[chV sp oc, .int .i64 ((j : Int) + 1)] W (Pure (.tuple #[.agg #[.int .i64 (sp.getD j zSp).lo, .int .i64 (sp.getD j zSp).hi], .agg #[.int .i64 0, .int .i64 0], .int .i64 0]) W) := by
  have h := AO5 (stA sp oc) (AK3 hsp hl) Ar9 W (AW7 sp oc hl hsp hoc W hW) ((j + 1 : Nat) : Int) ⟨by omega, by show ((j + 1 : Nat) : Int) < ((sp.length + 1 : Nat) : Int); omega⟩ _ _ (BQ2 hsp false hj) (BQ2 hsp true hj)
  rwa [Bu4 hoc] at h
theorem Ce7 {j : Nat} (hj : j < sp.length) (h1 : j ≠ 0) (n : Pw1.Sp) (hn : betwX (star sp) 1 ((j + 1 : Nat) : Int) true 0 = .ok n) : Calls Tryz.prog 13 #[chV sp oc, .int .i64 1, .int .i64 ((j : Int) + 1)] W (Pure (.tuple #[.agg #[.int .i64 ((sp.getD j zSp).lo - (sp.getD 0 zSp).hi), .int .i64 ((sp.getD j zSp).hi - (sp.getD 0 zSp).lo)], .agg #[.int .i64 n.lo, .int .i64 n.hi], .int .i64 0]) W) := by
  have h := AF6 (stA sp oc) (AK3 hsp hl) Ar9 W (AW7 sp oc hl hsp hoc W hW) 1 ((j + 1 : Nat) : Int) ⟨by decide, by show (1 : Int) < ((sp.length + 1 : Nat) : Int); omega⟩ ⟨by omega, by show ((j + 1 : Nat) : Int) < ((sp.length + 1 : Nat) : Int); omega⟩ _ _ (Cd8 hsp hj h1) hn
  rwa [Bu4 hoc] at h
end
end Go.Proofs.YthbiaipagceokaaGreat
namespace Go.Proofs.YthbiaipagceokaaGreat
open Go Go.Eng
theorem Cf9 : apB Tryz.prog 24 = some (36, 9, 72) := by kernel_rfl
theorem Cd2 : Enters Tryz.prog 10 := Aa6 Tryz.func10 (by kernel_rfl) rfl
theorem Cd1 : Enters Tryz.prog 11 := Aa6 Tryz.func11 (by kernel_rfl) rfl
theorem Cf4 : Enters Tryz.prog 4 := Aa6 Tryz.func4 (by kernel_rfl) rfl
theorem BT9 : Enters Tryz.prog 5 := Aa6 Tryz.func5 (by kernel_rfl) rfl
theorem Cb5 : Enters Tryz.prog 7 := Aa6 Tryz.func7 (by kernel_rfl) rfl
theorem Cf3 : Enters Tryz.prog 9 := Aa6 Tryz.func9 (by kernel_rfl) rfl
theorem BS7 : pairB Tryz.prog 54 = true := by kernel_rfl
theorem BZ3 : tyB Tryz.prog 54 = some (true, 2) := by kernel_rfl
instance : Tyc Tryz.prog 54 true 2 := ⟨BZ3⟩
theorem BZ2 : Tryz.prog.underlying 27 = some (.int .u32) := by kernel_rfl
theorem BR4 : zeroB Tryz.prog 40 = some [.slice none 0 0] := by kernel_rfl
theorem BR3 : zeroB Tryz.prog 41 = some [.slice none 0 0] := by kernel_rfl
end Go.Proofs.YthbiaipagceokaaGreat
