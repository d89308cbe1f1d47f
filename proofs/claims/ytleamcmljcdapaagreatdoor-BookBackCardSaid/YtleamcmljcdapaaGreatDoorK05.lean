/- Walks of the reference of layer 14: what is the same: bytes, prints, tours. -/
import Derived.Test.YtleamcmljcdapaaGreatDoorK04
import Derived.Test.YtleamcmljcdapaaGreatDoorRows
import Derived.Lib.LaidTab
import Derived.Stop.LaidErr
import Derived.MakeChecks
import Derived.Shelf.Vars
import Derived.Handed
import Derived.HandedShaped
import Derived.Lay
set_option linter.unusedSimpArgs false
set_option linter.unusedVariables false
namespace Go.Bk
open Go Go.Eng Go.RowKit
deriving instance DecidableEq for Tr, Cb, Ry, Ps
theorem ps_same {p q : Ps} (h : p.cards = q.cards) : decide (p = q) = (decide (p.less = q.less) && decide (p.loss = q.loss)) := by
  cases p; cases q; simp_all
theorem ps_ne {p q : Ps} (h : p.cards ≠ q.cards) : decide (p = q) = false := decide_eq_false fun e => h (e ▸ rfl)
theorem tr_same {p q : Tr} (h : p.ways = q.ways) : decide (p = q) = (decide (p.dawn = q.dawn) && (decide (p.fr = q.fr) && (decide (p.stay = q.stay) && decide (p.light = q.light)))) := by
  cases p; cases q; simp_all
theorem tr_ne {p q : Tr} (h : p.ways ≠ q.ways) : decide (p = q) = false := decide_eq_false fun e => h (e ▸ rfl)
theorem sp_eq {s u : Sp} : decide (s = u) = (decide (s.lo = u.lo) && decide (s.hi = u.hi)) := by cases s; cases u; simp
theorem mapT_step {α β : Type} {f : α → β} {l m : List α} {k : Nat} (hk : k < l.length) (hk2 : k < m.length) {x y : α} (hx : l[k] = x) (hy : m[k] = y) (kI : (l.map f).take k = (m.map f).take k) (he : f x = f y) : (l.map f).take (k + 1) = (m.map f).take (k + 1) :=
  eqT_step (by simpa using hk) (by simpa using hk2) (by simp [hx]) (by simp [hy]) kI he
theorem mapT_ne {α β : Type} {f : α → β} {l m : List α} {k : Nat} (hk : k < l.length) (hk2 : k < m.length) {x y : α} (hx : l[k] = x) (hy : m[k] = y) (he : f x ≠ f y) : l.map f ≠ m.map f :=
  ne_at (k := k) (by simpa using hk) (by simpa using hk2) (x := f x) (y := f y) (by simp [hx]) (by simp [hy]) he
end Go.Bk
namespace Go.Proofs.YtleamcmljcdapaaGreatDoor
open Go Go.Eng Go.Bk Go.RowKit

theorem rsamePrints_calls (p q : PsA) (W : World) (hP : p.cards.ok Pt.cells 5 W) (hQ : q.cards.ok Pt.cells 5 W) (hl : p.cards.l.length ≤ 1000000) (hl2 : q.cards.l.length ≤ 1000000) : Calls Tryz.prog 30 #[p.v, q.v] W (Pure (.bool (decide (p.pl = q.pl))) W) := by
  refine calls_start Tryz.func30 rfl rfl ?_
  refine st ?_
  refine RunL.new (New.box rfl) rfl rfl rfl (fun b2 => ?_)
  refine RunL.new (New.box rfl) rfl rfl rfl (fun b3 => ?_)
  refine st ?_
  refine lv (Val.fieldAddr rfl fld_40_0) ?_
  refine lv (Val.load_one rfl (.tail _ (.head _)) ty_36 rfl) ?_
  refine lv (Val.len_sl rfl sl_36) ?_
  refine lv (Val.fieldAddr rfl fld_40_0) ?_
  refine lv (Val.load_one rfl (.head _) ty_36 rfl) ?_
  refine lv (Val.len_sl rfl sl_36) ?_
  refine cn rfl ?_ ?_
  ·intro c0'
   refine st ?_
   refine RunC.ret ?_
   refine RunE.pass_ret ?_
   exact RunE.retP (.r1 rfl (.tmp rfl)) (by first | (rw [ps_same (show p.pl.cards = q.pl.cards from eq_end (show p.cards.l.length = q.cards.l.length by omega) kI), sp_eq, sp_eq]; first | rfl | (simp_all [PsA.pl]; done)) | (rw [ps_ne (show p.pl.cards ≠ q.pl.cards from ne_at hk hk2 hx hy (by rintro rfl; simp_all))]; done) | (rw [ps_ne (show p.pl.cards ≠ q.pl.cards from ne_len (show p.cards.l.length ≠ q.cards.l.length by omega))]; done))
  intro c0'
  refine st ?_
  refine RunC.loopK (p.cards.l.length) (fun k q => (5, .int .i64 (k : Int)) :: q) (fun _ => _) (fun _ => []) (fun k => p.cards.l.take k = q.cards.l.take k) (by simp) rfl (Sub.consE (t := 5) rfl rfl (Sub.cons (t := 2) rfl (Sub.cons (t := 3) rfl (Sub.nil _)))) (.cons .here rfl (.cons .here rfl .nil)) ?_
  intro k kN kI
  refine st ?_
  refine lv (Val.fieldAddr rfl fld_40_0) ?_
  refine lv (Val.load_one rfl (.tail _ (.head _)) ty_36 rfl) ?_
  refine lv (Val.len_sl rfl sl_36) ?_
  refine cn rfl ?_ ?_
  ·intro c1'
   have hk : k < p.cards.l.length := by omega
   have hk2 : k < q.cards.l.length := by omega
   obtain ⟨x, hx⟩ : ∃ x, p.cards.l[k] = x := ⟨_, rfl⟩
   obtain ⟨y, hy⟩ : ∃ y, q.cards.l[k] = y := ⟨_, rfl⟩
   refine st ?_
   refine RunC.draw 10 fol_ (.cons .here rfl (.cons .here rfl .nil)) ?_
   refine va 0 rfl (Val.fieldAddr rfl fld_40_0) rfl rfl rfl (.cons .here rfl (.cons .here rfl .nil)) rfl ?_
   refine va 1 rfl (Val.load_one rfl (.tail _ (.head _)) ty_36 rfl) rfl rfl rfl (.cons .here rfl (.cons .here rfl .nil)) rfl ?_
   refine va 2 rfl (Val.pure rfl) rfl rfl rfl (.cons .here rfl (.cons .here rfl .nil)) rfl ?_
   refine va 3 rfl (Val.indexAddr_slp rfl rfl sl_36 (by omega) (by omega) (Sl.ptrM hP hk)) rfl rfl rfl (.cons .here rfl (.cons .here rfl .nil)) rfl ?_
   refine va 4 rfl (Val.load_gen rfl (fun w hm => Sl.loadX hP (by decide) hm (by simp) ty_120 hk hx)) rfl rfl rfl (.cons .here rfl (.cons .here rfl .nil)) rfl ?_
   refine va 5 rfl (Val.fieldAddr rfl fld_40_0) rfl rfl rfl (.cons .here rfl (.cons .here rfl .nil)) rfl ?_
   refine va 6 rfl (Val.load_one rfl (.head _) ty_36 rfl) rfl rfl rfl (.cons .here rfl (.cons .here rfl .nil)) rfl ?_
   refine va 7 rfl (Val.pure rfl) rfl rfl rfl (.cons .here rfl (.cons .here rfl .nil)) rfl ?_
   refine va 8 rfl (Val.indexAddr_slp rfl rfl sl_36 (by omega) (by omega) (Sl.ptrM hQ hk2)) rfl rfl rfl (.cons .here rfl (.cons .here rfl .nil)) rfl ?_
   refine va 9 rfl (Val.load_gen rfl (fun w hm => Sl.loadX hQ (by decide) hm (by simp) ty_120 hk2 hy)) rfl rfl rfl (.cons .here rfl (.cons .here rfl .nil)) rfl ?_
   refine RunA.toB (by kernel_rfl) ?_
   refine RunB.one (i := 10) (by kernel_rfl) ?_
   refine RunI.val rfl (Val.neq_flat rfl rfl eqB_120 (kl_120 _ _ _ _ _ _ _ _ _ _ )) rfl rfl rfl (RunK.toB ?_)
   refine RunB.done (by kernel_rfl) ?_
   refine st ?_
   refine cn rfl ?_ ?_
   ·intro c2'
    refine st ?_
    refine RunC.ret ?_
    refine RunE.block_ret ?_
    refine RunE.pass_ret ?_
    refine RunE.pass_ret ?_
    refine RunE.block_ret ?_
    refine RunE.pass_ret ?_
    exact RunE.retP (.r1 rfl (.tmp rfl)) (by first | (rw [ps_same (show p.pl.cards = q.pl.cards from eq_end (show p.cards.l.length = q.cards.l.length by omega) kI), sp_eq, sp_eq]; first | rfl | (simp_all [PsA.pl]; done)) | (rw [ps_ne (show p.pl.cards ≠ q.pl.cards from ne_at hk hk2 hx hy (by rintro rfl; simp_all))]; done) | (rw [ps_ne (show p.pl.cards ≠ q.pl.cards from ne_len (show p.cards.l.length ≠ q.cards.l.length by omega))]; done))
   intro c2'
   refine st ?_
   refine lv (Val.add rfl rfl (IntWalk.i64_in _ ⟨by omega, by omega⟩)) ?_
   exact RunE.round (by omega) (eqT_step hk hk2 hx hy kI (by cases x with | mk a b c => cases a; cases b; cases y with | mk a2 b2 c2 => cases a2; cases b2; simp_all)) rfl (Sub.consE (t := 5) rfl rfl (Sub.cons (t := 2) rfl (Sub.cons (t := 3) rfl (Sub.nil _)))) (.cons .here rfl (.cons .here rfl .nil))
  intro c1'
  obtain rfl : k = p.cards.l.length := by omega
  refine RunC.exit ?_
  refine RunE.pass_exit ?_
  refine RunE.pass_exit ?_
  refine RunE.block_here ?_
  refine st ?_
  refine lv (Val.fieldAddr rfl fld_40_1) ?_
  refine lv (Val.load_agg rfl (.tail _ (.head _)) ty_38 rfl) ?_
  refine lv (Val.fieldAddr rfl fld_40_1) ?_
  refine lv (Val.load_agg rfl (.head _) ty_38 rfl) ?_
  refine lv (Val.eql_pair rfl rfl pair_38) ?_
  refine RunL.andPart (dj := 36) (dp := 42) 6 rfl (fun g36 => by
    have g36' := g36
    try simp only [nH] at g36'
    refine lv (Val.fieldAddr rfl fld_40_2) ?_
    refine lv (Val.load_agg rfl (.tail _ (.head _)) ty_38 rfl) ?_
    refine lv (Val.fieldAddr rfl fld_40_2) ?_
    refine lv (Val.load_agg rfl (.head _) ty_38 rfl) ?_
    refine RunL.val (Val.eql_pair rfl rfl pair_38) rfl rfl rfl ?_
    refine sv ?_
    exact RunL.segEnd (Sub.cons rfl (Sub.skip rfl (Sub.skip rfl (Sub.skip rfl (Sub.skip rfl (Sub.skip rfl (Sub.skip rfl (Sub.same rfl (by rw [g36]) (Sub.refl _))))))))) (List.Sublist.refl _)
  ) (fun g36 => by
    have g36' := g36
    try simp only [nH] at g36'
    iterate 5 refine RunL.no rfl rfl rfl ?_
    refine sv ?_
    exact RunL.segEnd (Sub.cons rfl (Sub.skip rfl (Sub.skip rfl (Sub.skip rfl (Sub.skip rfl (Sub.skip rfl (Sub.skip rfl (Sub.same rfl (by rw [g36]) (Sub.refl _))))))))) (List.Sublist.refl _)
  ) ?_
  refine st ?_
  refine RunC.ret ?_
  exact RunE.retP (.r1 rfl (.tmp rfl)) (by first | (rw [ps_same (show p.pl.cards = q.pl.cards from eq_end (show p.cards.l.length = q.cards.l.length by omega) kI), sp_eq, sp_eq]; first | rfl | (simp_all [PsA.pl]; done)) | (rw [ps_ne (show p.pl.cards ≠ q.pl.cards from ne_at hk hk2 hx hy (by rintro rfl; simp_all))]; done) | (rw [ps_ne (show p.pl.cards ≠ q.pl.cards from ne_len (show p.cards.l.length ≠ q.cards.l.length by omega))]; done))
theorem rsameTour_calls (t u : TrA) (hs : TrSm t) (hs2 : TrSm u) (W : World) (hT : TrOk W t) (hU : TrOk W u) : Calls Tryz.prog 14 #[t.v, u.v] W (Pure (.bool (decide (t.pl = u.pl))) W) := by
  obtain ⟨s1, s2, s3, s4, s5⟩ := id hs
  obtain ⟨u1, u2, u3, u4, u5⟩ := id hs2
  refine calls_start Tryz.func14 rfl rfl ?_
  refine st ?_
  refine RunL.new (New.box rfl) rfl rfl rfl (fun b2 => ?_)
  refine RunL.new (New.box rfl) rfl rfl rfl (fun b3 => ?_)
  refine st ?_
  refine lv (Val.fieldAddr rfl fld_25_2) ?_
  refine lv (Val.load_one rfl (.tail _ (.head _)) ty_23 rfl) ?_
  refine lv (Val.len_sl rfl sl_23) ?_
  refine lv (Val.fieldAddr rfl fld_25_2) ?_
  refine lv (Val.load_one rfl (.head _) ty_23 rfl) ?_
  refine lv (Val.len_sl rfl sl_23) ?_
  refine cn rfl ?_ ?_
  ·intro c0'
   refine st ?_
   refine RunC.ret ?_
   refine RunE.pass_ret ?_
   exact RunE.retP (.r1 rfl (.tmp rfl)) (by first | (rw [tr_ne (show t.pl.ways ≠ u.pl.ways from mapT_ne hk hk2 hx hy (by simp_all))]; done) | (rw [tr_ne (show t.pl.ways ≠ u.pl.ways from ne_len (show (t.ways.l.map (·.l)).length ≠ (u.ways.l.map (·.l)).length by simp only [List.length_map]; omega))]; done) | (rw [tr_same (show t.pl.ways = u.pl.ways from eq_end (show (t.ways.l.map (·.l)).length = (u.ways.l.map (·.l)).length by simp only [List.length_map]; omega) (by show List.take (t.ways.l.map (·.l)).length (t.ways.l.map (·.l)) = List.take (t.ways.l.map (·.l)).length (u.ways.l.map (·.l)); rw [List.length_map]; exact kI))]; exact congrArg Value.bool (by rw [Bool.and_assoc, Bool.and_assoc]; rfl)))
  intro c0'
  refine st ?_
  refine RunC.loopK (t.ways.l.length) (fun k q => (5, .int .i64 (k : Int)) :: q) (fun _ => _) (fun _ => []) (fun k => (t.ways.l.map (·.l)).take k = (u.ways.l.map (·.l)).take k) (by simp) rfl (Sub.consE (t := 5) rfl rfl (Sub.cons (t := 2) rfl (Sub.cons (t := 3) rfl (Sub.nil _)))) (.cons .here rfl (.cons .here rfl .nil)) ?_
  intro k kN kI
  refine st ?_
  refine lv (Val.fieldAddr rfl fld_25_2) ?_
  refine lv (Val.load_one rfl (.tail _ (.head _)) ty_23 rfl) ?_
  refine lv (Val.len_sl rfl sl_23) ?_
  refine cn rfl ?_ ?_
  ·intro c1'
   have hk : k < t.ways.l.length := by omega
   have hk2 : k < u.ways.l.length := by omega
   obtain ⟨x, hx⟩ : ∃ x, t.ways.l[k] = x := ⟨_, rfl⟩
   obtain ⟨y, hy⟩ : ∃ y, u.ways.l[k] = y := ⟨_, rfl⟩
   have hxm : x ∈ t.ways.l := hx ▸ List.getElem_mem hk
   have hym : y ∈ u.ways.l := hy ▸ List.getElem_mem hk2
   refine st ?_
   refine RunC.draw 10 fol_ (.cons .here rfl (.cons .here rfl .nil)) ?_
   refine va 0 rfl (Val.fieldAddr rfl fld_25_2) rfl rfl rfl (.cons .here rfl (.cons .here rfl .nil)) rfl ?_
   refine va 1 rfl (Val.load_one rfl (.tail _ (.head _)) ty_23 rfl) rfl rfl rfl (.cons .here rfl (.cons .here rfl .nil)) rfl ?_
   refine va 2 rfl (Val.pure rfl) rfl rfl rfl (.cons .here rfl (.cons .here rfl .nil)) rfl ?_
   refine va 3 rfl (Val.indexAddr_slp rfl rfl sl_23 (by omega) (by omega) (Sl.ptrM hT.ways hk)) rfl rfl rfl (.cons .here rfl (.cons .here rfl .nil)) rfl ?_
   refine va 4 rfl (Val.load_gen rfl (fun w hm => Sl.loadM1 hT.ways (by decide) hm (by simp) ty_22 hk (v := x.v) (by simp [SA.cell, hx]))) rfl rfl rfl (.cons .here rfl (.cons .here rfl .nil)) rfl ?_
   refine va 5 rfl (Val.fieldAddr rfl fld_25_2) rfl rfl rfl (.cons .here rfl (.cons .here rfl .nil)) rfl ?_
   refine va 6 rfl (Val.load_one rfl (.head _) ty_23 rfl) rfl rfl rfl (.cons .here rfl (.cons .here rfl .nil)) rfl ?_
   refine va 7 rfl (Val.pure rfl) rfl rfl rfl (.cons .here rfl (.cons .here rfl .nil)) rfl ?_
   refine va 8 rfl (Val.indexAddr_slp rfl rfl sl_23 (by omega) (by omega) (Sl.ptrM hU.ways hk2)) rfl rfl rfl (.cons .here rfl (.cons .here rfl .nil)) rfl ?_
   refine va 9 rfl (Val.load_gen rfl (fun w hm => Sl.loadM1 hU.ways (by decide) hm (by simp) ty_22 hk2 (v := y.v) (by simp [SA.cell, hy]))) rfl rfl rfl (.cons .here rfl (.cons .here rfl .nil)) rfl ?_
   refine RunA.toB (by kernel_rfl) ?_
   refine RunB.one (i := 10) (by kernel_rfl) ?_
   refine RunI.callP rfl (isCall_func rfl ent_48) rfl rfl rfl (fun w hm => (rsameSpans_calls x y w ((hT.rows x hxm).mono0 (by decide) hm) ((hU.rows y hym).mono0 (by decide) hm) (by have := s3 x hxm; omega) (by have := u3 y hym; omega))) (RunK.toB ?_)
   refine RunB.one (i := 11) (by kernel_rfl) ?_
   refine RunI.val rfl (Val.pure rfl) rfl rfl rfl (RunK.toB ?_)
   refine RunB.done (by kernel_rfl) ?_
   refine st ?_
   refine cn rfl ?_ ?_
   ·intro c2'
    refine st ?_
    refine RunC.ret ?_
    refine RunE.block_ret ?_
    refine RunE.pass_ret ?_
    refine RunE.pass_ret ?_
    refine RunE.block_ret ?_
    refine RunE.pass_ret ?_
    exact RunE.retP (.r1 rfl (.tmp rfl)) (by first | (rw [tr_ne (show t.pl.ways ≠ u.pl.ways from mapT_ne hk hk2 hx hy (by simp_all))]; done) | (rw [tr_ne (show t.pl.ways ≠ u.pl.ways from ne_len (show (t.ways.l.map (·.l)).length ≠ (u.ways.l.map (·.l)).length by simp only [List.length_map]; omega))]; done) | (rw [tr_same (show t.pl.ways = u.pl.ways from eq_end (show (t.ways.l.map (·.l)).length = (u.ways.l.map (·.l)).length by simp only [List.length_map]; omega) (by show List.take (t.ways.l.map (·.l)).length (t.ways.l.map (·.l)) = List.take (t.ways.l.map (·.l)).length (u.ways.l.map (·.l)); rw [List.length_map]; exact kI))]; exact congrArg Value.bool (by rw [Bool.and_assoc, Bool.and_assoc]; rfl)))
   intro c2'
   refine st ?_
   refine lv (Val.add rfl rfl (IntWalk.i64_in _ ⟨by omega, by omega⟩)) ?_
   exact RunE.round (by omega) (mapT_step hk hk2 hx hy kI (by simp_all)) rfl (Sub.consE (t := 5) rfl rfl (Sub.cons (t := 2) rfl (Sub.cons (t := 3) rfl (Sub.nil _)))) (.cons .here rfl (.cons .here rfl .nil))
  intro c1'
  obtain rfl : k = t.ways.l.length := by omega
  refine RunC.exit ?_
  refine RunE.pass_exit ?_
  refine RunE.pass_exit ?_
  refine RunE.block_here ?_
  refine st ?_
  refine lv (Val.fieldAddr rfl fld_25_0) ?_
  refine lv (Val.load_one rfl (.tail _ (.head _)) ty_3 rfl) ?_
  refine lv (Val.fieldAddr rfl fld_25_0) ?_
  refine lv (Val.load_one rfl (.head _) ty_3 rfl) ?_
  refine RunL.andPart (dj := 37) (dp := 43) 6 rfl (fun g37 => by
    have g37' := g37
    try simp only [nH] at g37'
    refine lv (Val.fieldAddr rfl fld_25_1) ?_
    refine lv (Val.load_one rfl (.tail _ (.head _)) ty_22 rfl) ?_
    refine lv (Val.fieldAddr rfl fld_25_1) ?_
    refine lv (Val.load_one rfl (.head _) ty_22 rfl) ?_
    refine RunL.callP (isCall_func rfl ent_48) rfl rfl rfl (fun w hm => (rsameSpans_calls t.fr u.fr w (hT.fr.mono0 (by decide) hm) (hU.fr.mono0 (by decide) hm) (by omega) (by omega))) ?_
    refine sv ?_
    exact RunL.segEnd (Sub.cons rfl (Sub.skip rfl (Sub.skip rfl (Sub.skip rfl (Sub.skip rfl (Sub.skip rfl (Sub.skip rfl (Sub.same rfl (by rw [g37]) (Sub.refl _))))))))) (List.Sublist.refl _)
  ) (fun g37 => by
    have g37' := g37
    try simp only [nH] at g37'
    iterate 5 refine RunL.no rfl rfl rfl ?_
    refine sv ?_
    exact RunL.segEnd (Sub.cons rfl (Sub.skip rfl (Sub.skip rfl (Sub.skip rfl (Sub.skip rfl (Sub.skip rfl (Sub.skip rfl (Sub.same rfl (by rw [g37]) (Sub.refl _))))))))) (List.Sublist.refl _)
  ) ?_
  refine st ?_
  refine RunL.andPart (dj := 44) (dp := 50) 6 rfl (fun g44 => by
    have g44' := g44
    try simp only [nH] at g44'
    refine lv (Val.fieldAddr rfl fld_25_3) ?_
    refine lv (Val.load_one rfl (.tail _ (.head _)) ty_22 rfl) ?_
    refine lv (Val.fieldAddr rfl fld_25_3) ?_
    refine lv (Val.load_one rfl (.head _) ty_22 rfl) ?_
    refine RunL.callP (isCall_func rfl ent_48) rfl rfl rfl (fun w hm => (rsameSpans_calls t.stay u.stay w (hT.stay.mono0 (by decide) hm) (hU.stay.mono0 (by decide) hm) (by omega) (by omega))) ?_
    refine sv ?_
    exact RunL.segEnd (Sub.cons rfl (Sub.skip rfl (Sub.skip rfl (Sub.skip rfl (Sub.skip rfl (Sub.skip rfl (Sub.skip rfl (Sub.same rfl (by rw [g44]) (Sub.refl _))))))))) (List.Sublist.refl _)
  ) (fun g44 => by
    have g44' := g44
    try simp only [nH] at g44'
    iterate 5 refine RunL.no rfl rfl rfl ?_
    refine sv ?_
    exact RunL.segEnd (Sub.cons rfl (Sub.skip rfl (Sub.skip rfl (Sub.skip rfl (Sub.skip rfl (Sub.skip rfl (Sub.skip rfl (Sub.same rfl (by rw [g44]) (Sub.refl _))))))))) (List.Sublist.refl _)
  ) ?_
  refine st ?_
  refine RunL.andPart (dj := 51) (dp := 57) 6 rfl (fun g51 => by
    have g51' := g51
    try simp only [nH] at g51'
    refine lv (Val.fieldAddr rfl fld_25_4) ?_
    refine lv (Val.load_one rfl (.tail _ (.head _)) ty_22 rfl) ?_
    refine lv (Val.fieldAddr rfl fld_25_4) ?_
    refine lv (Val.load_one rfl (.head _) ty_22 rfl) ?_
    refine RunL.callP (isCall_func rfl ent_48) rfl rfl rfl (fun w hm => (rsameSpans_calls t.light u.light w (hT.light.mono0 (by decide) hm) (hU.light.mono0 (by decide) hm) (by omega) (by omega))) ?_
    refine sv ?_
    exact RunL.segEnd (Sub.cons rfl (Sub.skip rfl (Sub.skip rfl (Sub.skip rfl (Sub.skip rfl (Sub.skip rfl (Sub.skip rfl (Sub.same rfl (by rw [g51]) (Sub.refl _))))))))) (List.Sublist.refl _)
  ) (fun g51 => by
    have g51' := g51
    try simp only [nH] at g51'
    iterate 5 refine RunL.no rfl rfl rfl ?_
    refine sv ?_
    exact RunL.segEnd (Sub.cons rfl (Sub.skip rfl (Sub.skip rfl (Sub.skip rfl (Sub.skip rfl (Sub.skip rfl (Sub.skip rfl (Sub.same rfl (by rw [g51]) (Sub.refl _))))))))) (List.Sublist.refl _)
  ) ?_
  refine st ?_
  refine RunC.ret ?_
  exact RunE.retP (.r1 rfl (.tmp rfl)) (by first | (rw [tr_ne (show t.pl.ways ≠ u.pl.ways from mapT_ne hk hk2 hx hy (by simp_all))]; done) | (rw [tr_ne (show t.pl.ways ≠ u.pl.ways from ne_len (show (t.ways.l.map (·.l)).length ≠ (u.ways.l.map (·.l)).length by simp only [List.length_map]; omega))]; done) | (rw [tr_same (show t.pl.ways = u.pl.ways from eq_end (show (t.ways.l.map (·.l)).length = (u.ways.l.map (·.l)).length by simp only [List.length_map]; omega) (by show List.take (t.ways.l.map (·.l)).length (t.ways.l.map (·.l)) = List.take (t.ways.l.map (·.l)).length (u.ways.l.map (·.l)); rw [List.length_map]; exact kI))]; exact congrArg Value.bool (by rw [Bool.and_assoc, Bool.and_assoc]; rfl)))
end Go.Proofs.YtleamcmljcdapaaGreatDoor
namespace Go.Proofs.YtleamcmljcdapaaGreatDoor
open Go Go.Eng
theorem ent_58 : Enters Tryz.prog 58 := enters_of Tryz.func58 (by kernel_rfl) rfl
theorem eqB_109 : aggB Tryz.prog 109 = true := by kernel_rfl
theorem eqB_111 : aggB Tryz.prog 111 = true := by kernel_rfl
theorem eqB_98 : aggB Tryz.prog 98 = true := by kernel_rfl
theorem kl_109 (a0 : Int) (a1 : Int) (a2 : Int) (c0 : Int) (c1 : Int) (c2 : Int) : eqF Tryz.prog 8 109 [.int .i64 a0, .int .i64 a1, .int .i64 a2] [.int .i64 c0, .int .i64 c1, .int .i64 c2] = some (decide (a0 = c0) && (decide (a1 = c1) && (decide (a2 = c2) && true))) := by kernel_rfl
theorem kl_111 (a0 : Int) (a1 : Int) (a2 : Int) (a3 : Int) (c0 : Int) (c1 : Int) (c2 : Int) (c3 : Int) : eqF Tryz.prog 8 111 [.int .i64 a0, .int .i64 a1, .int .i64 a2, .int .i64 a3] [.int .i64 c0, .int .i64 c1, .int .i64 c2, .int .i64 c3] = some (decide (a0 = c0) && (decide (a1 = c1) && (decide (a2 = c2) && (decide (a3 = c3) && true)))) := by kernel_rfl
theorem kl_98 (a0 : Int) (a1 : Int) (a2 : Int) (a3 : Int) (c0 : Int) (c1 : Int) (c2 : Int) (c3 : Int) : eqF Tryz.prog 8 98 [.int .i64 a0, .int .i64 a1, .int .i64 a2, .int .i64 a3] [.int .i64 c0, .int .i64 c1, .int .i64 c2, .int .i64 c3] = some (decide (a0 = c0) && (decide (a1 = c1) && (decide (a2 = c2) && (decide (a3 = c3) && true)))) := by kernel_rfl
end Go.Proofs.YtleamcmljcdapaaGreatDoor
namespace Go.Bk
open Go Go.Eng Go.RowKit
theorem cb_same {p q : Cb} (h : p.loans = q.loans) : decide (p = q) = (decide (p.slots = q.slots) && (decide (p.wrong = q.wrong) && decide (p.homes = q.homes))) := by
  cases p; cases q; simp_all
  exact Bool.eq_iff_iff.2 (by simp; intro _; exact and_comm)
theorem cb_ne {p q : Cb} (h : p.loans ≠ q.loans) : decide (p = q) = false := decide_eq_false fun e => h (e ▸ rfl)
theorem ry_same {p q : Ry} (h1 : p.terms = q.terms) (h2 : p.shares = q.shares) (h3 : p.reports = q.reports) : decide (p = q) = (decide (p.prices = q.prices) && decide (p.paid = q.paid)) := by
  cases p; cases q; simp_all
theorem ry_ne1 {p q : Ry} (h : p.terms ≠ q.terms) : decide (p = q) = false := decide_eq_false fun e => h (e ▸ rfl)
theorem ry_ne2 {p q : Ry} (h : p.shares ≠ q.shares) : decide (p = q) = false := decide_eq_false fun e => h (e ▸ rfl)
theorem ry_ne3 {p q : Ry} (h : p.reports ≠ q.reports) : decide (p = q) = false := decide_eq_false fun e => h (e ▸ rfl)
end Go.Bk
namespace Go.Proofs.YtleamcmljcdapaaGreatDoor
open Go Go.Eng Go.Bk Go.RowKit

theorem rsameCabinet_calls (c d : CbA) (hs : CbS c) (hs2 : CbS d) (W : World) (hC : CbOk W c) (hD : CbOk W d) : Calls Tryz.prog 23 #[c.v, d.v] W (Pure (.bool (decide (c.pl = d.pl))) W) := by
  have s1 := hs.homes
  have s2 := hs.loans
  have u1 := hs2.homes
  have u2 := hs2.loans
  refine calls_start Tryz.func23 rfl rfl ?_
  refine st ?_
  refine RunL.new (New.box rfl) rfl rfl rfl (fun b2 => ?_)
  refine RunL.new (New.box rfl) rfl rfl rfl (fun b3 => ?_)
  refine st ?_
  refine lv (Val.fieldAddr rfl fld_30_3) ?_
  refine lv (Val.load_one rfl (.tail _ (.head _)) ty_28 rfl) ?_
  refine lv (Val.len_sl rfl sl_28) ?_
  refine lv (Val.fieldAddr rfl fld_30_3) ?_
  refine lv (Val.load_one rfl (.head _) ty_28 rfl) ?_
  refine lv (Val.len_sl rfl sl_28) ?_
  refine cn rfl ?_ ?_
  ·intro c0'
   refine st ?_
   refine RunC.ret ?_
   refine RunE.pass_ret ?_
   exact RunE.retP (.r1 rfl (.tmp rfl)) (by first | (rw [cb_ne (show c.pl.loans ≠ d.pl.loans from ne_at hk hk2 hx hy (by rintro rfl; simp_all))]; done) | (rw [cb_ne (show c.pl.loans ≠ d.pl.loans from ne_len (show c.loans.l.length ≠ d.loans.l.length by omega))]; done) | (rw [cb_same (show c.pl.loans = d.pl.loans from eq_end (show c.loans.l.length = d.loans.l.length by omega) kI)]; exact congrArg Value.bool (by rw [Bool.and_assoc]; rfl)))
  intro c0'
  refine st ?_
  refine RunC.loopK (c.loans.l.length) (fun k q => (5, .int .i64 (k : Int)) :: q) (fun _ => _) (fun _ => []) (fun k => c.loans.l.take k = d.loans.l.take k) (by simp) rfl (Sub.consE (t := 5) rfl rfl (Sub.cons (t := 2) rfl (Sub.cons (t := 3) rfl (Sub.nil _)))) (.cons .here rfl (.cons .here rfl .nil)) ?_
  intro k kN kI
  refine st ?_
  refine lv (Val.fieldAddr rfl fld_30_3) ?_
  refine lv (Val.load_one rfl (.tail _ (.head _)) ty_28 rfl) ?_
  refine lv (Val.len_sl rfl sl_28) ?_
  refine cn rfl ?_ ?_
  ·intro c1'
   have hk : k < c.loans.l.length := by omega
   have hk2 : k < d.loans.l.length := by omega
   obtain ⟨x, hx⟩ : ∃ x, c.loans.l[k] = x := ⟨_, rfl⟩
   obtain ⟨y, hy⟩ : ∃ y, d.loans.l[k] = y := ⟨_, rfl⟩
   refine st ?_
   refine RunC.draw 10 fol_ (.cons .here rfl (.cons .here rfl .nil)) ?_
   refine va 0 rfl (Val.fieldAddr rfl fld_30_3) rfl rfl rfl (.cons .here rfl (.cons .here rfl .nil)) rfl ?_
   refine va 1 rfl (Val.load_one rfl (.tail _ (.head _)) ty_28 rfl) rfl rfl rfl (.cons .here rfl (.cons .here rfl .nil)) rfl ?_
   refine va 2 rfl (Val.pure rfl) rfl rfl rfl (.cons .here rfl (.cons .here rfl .nil)) rfl ?_
   refine va 3 rfl (Val.indexAddr_slp rfl rfl sl_28 (by omega) (by omega) (Sl.ptrM hC.loans hk)) rfl rfl rfl (.cons .here rfl (.cons .here rfl .nil)) rfl ?_
   refine va 4 rfl (Val.load_gen rfl (fun w hm => Sl.loadX hC.loans (by decide) hm (by simp) ty_98 hk hx)) rfl rfl rfl (.cons .here rfl (.cons .here rfl .nil)) rfl ?_
   refine va 5 rfl (Val.fieldAddr rfl fld_30_3) rfl rfl rfl (.cons .here rfl (.cons .here rfl .nil)) rfl ?_
   refine va 6 rfl (Val.load_one rfl (.head _) ty_28 rfl) rfl rfl rfl (.cons .here rfl (.cons .here rfl .nil)) rfl ?_
   refine va 7 rfl (Val.pure rfl) rfl rfl rfl (.cons .here rfl (.cons .here rfl .nil)) rfl ?_
   refine va 8 rfl (Val.indexAddr_slp rfl rfl sl_28 (by omega) (by omega) (Sl.ptrM hD.loans hk2)) rfl rfl rfl (.cons .here rfl (.cons .here rfl .nil)) rfl ?_
   refine va 9 rfl (Val.load_gen rfl (fun w hm => Sl.loadX hD.loans (by decide) hm (by simp) ty_98 hk2 hy)) rfl rfl rfl (.cons .here rfl (.cons .here rfl .nil)) rfl ?_
   refine RunA.toB (by kernel_rfl) ?_
   refine RunB.one (i := 10) (by kernel_rfl) ?_
   refine RunI.val rfl (Val.neq_flat rfl rfl eqB_98 (kl_98 _ _ _ _ _ _ _ _ )) rfl rfl rfl (RunK.toB ?_)
   refine RunB.done (by kernel_rfl) ?_
   refine st ?_
   refine cn rfl ?_ ?_
   ·intro c2'
    refine st ?_
    refine RunC.ret ?_
    refine RunE.block_ret ?_
    refine RunE.pass_ret ?_
    refine RunE.pass_ret ?_
    refine RunE.block_ret ?_
    refine RunE.pass_ret ?_
    exact RunE.retP (.r1 rfl (.tmp rfl)) (by first | (rw [cb_ne (show c.pl.loans ≠ d.pl.loans from ne_at hk hk2 hx hy (by rintro rfl; simp_all))]; done) | (rw [cb_ne (show c.pl.loans ≠ d.pl.loans from ne_len (show c.loans.l.length ≠ d.loans.l.length by omega))]; done) | (rw [cb_same (show c.pl.loans = d.pl.loans from eq_end (show c.loans.l.length = d.loans.l.length by omega) kI)]; exact congrArg Value.bool (by rw [Bool.and_assoc]; rfl)))
   intro c2'
   refine st ?_
   refine lv (Val.add rfl rfl (IntWalk.i64_in _ ⟨by omega, by omega⟩)) ?_
   exact RunE.round (by omega) (eqT_step hk hk2 hx hy kI (by cases x; cases y; simp_all)) rfl (Sub.consE (t := 5) rfl rfl (Sub.cons (t := 2) rfl (Sub.cons (t := 3) rfl (Sub.nil _)))) (.cons .here rfl (.cons .here rfl .nil))
  intro c1'
  obtain rfl : k = c.loans.l.length := by omega
  refine RunC.exit ?_
  refine RunE.pass_exit ?_
  refine RunE.pass_exit ?_
  refine RunE.block_here ?_
  refine st ?_
  refine lv (Val.fieldAddr rfl fld_30_0) ?_
  refine lv (Val.load_one rfl (.tail _ (.head _)) ty_3 rfl) ?_
  refine lv (Val.fieldAddr rfl fld_30_0) ?_
  refine lv (Val.load_one rfl (.head _) ty_3 rfl) ?_
  refine RunL.andPart (dj := 36) (dp := 42) 6 rfl (fun g36 => by
    have g36' := g36
    try simp only [nH] at g36'
    refine lv (Val.fieldAddr rfl fld_30_2) ?_
    refine lv (Val.load_one rfl (.tail _ (.head _)) ty_3 rfl) ?_
    refine lv (Val.fieldAddr rfl fld_30_2) ?_
    refine RunL.val (Val.load_one rfl (.head _) ty_3 rfl) rfl rfl rfl ?_
    refine sv ?_
    exact RunL.segEnd (Sub.cons rfl (Sub.skip rfl (Sub.skip rfl (Sub.skip rfl (Sub.skip rfl (Sub.skip rfl (Sub.skip rfl (Sub.same rfl (by rw [g36]) (Sub.refl _))))))))) (List.Sublist.refl _)
  ) (fun g36 => by
    have g36' := g36
    try simp only [nH] at g36'
    iterate 5 refine RunL.no rfl rfl rfl ?_
    refine sv ?_
    exact RunL.segEnd (Sub.cons rfl (Sub.skip rfl (Sub.skip rfl (Sub.skip rfl (Sub.skip rfl (Sub.skip rfl (Sub.skip rfl (Sub.same rfl (by rw [g36]) (Sub.refl _))))))))) (List.Sublist.refl _)
  ) ?_
  refine st ?_
  refine RunL.andPart (dj := 43) (dp := 49) 6 rfl (fun g43 => by
    have g43' := g43
    try simp only [nH] at g43'
    refine lv (Val.fieldAddr rfl fld_30_1) ?_
    refine lv (Val.load_one rfl (.tail _ (.head _)) ty_27 rfl) ?_
    refine lv (Val.fieldAddr rfl fld_30_1) ?_
    refine lv (Val.load_one rfl (.head _) ty_27 rfl) ?_
    refine RunL.callP (isCall_func rfl ent_58) rfl rfl rfl (fun w hm => (rsameInts_calls c.homes d.homes w (hC.homes.mono0 (by decide) hm) (hD.homes.mono0 (by decide) hm) (by omega) (by omega))) ?_
    refine sv ?_
    exact RunL.segEnd (Sub.cons rfl (Sub.skip rfl (Sub.skip rfl (Sub.skip rfl (Sub.skip rfl (Sub.skip rfl (Sub.skip rfl (Sub.same rfl (by rw [g43]) (Sub.refl _))))))))) (List.Sublist.refl _)
  ) (fun g43 => by
    have g43' := g43
    try simp only [nH] at g43'
    iterate 5 refine RunL.no rfl rfl rfl ?_
    refine sv ?_
    exact RunL.segEnd (Sub.cons rfl (Sub.skip rfl (Sub.skip rfl (Sub.skip rfl (Sub.skip rfl (Sub.skip rfl (Sub.skip rfl (Sub.same rfl (by rw [g43]) (Sub.refl _))))))))) (List.Sublist.refl _)
  ) ?_
  refine st ?_
  refine RunC.ret ?_
  exact RunE.retP (.r1 rfl (.tmp rfl)) (by first | (rw [cb_ne (show c.pl.loans ≠ d.pl.loans from ne_at hk hk2 hx hy (by rintro rfl; simp_all))]; done) | (rw [cb_ne (show c.pl.loans ≠ d.pl.loans from ne_len (show c.loans.l.length ≠ d.loans.l.length by omega))]; done) | (rw [cb_same (show c.pl.loans = d.pl.loans from eq_end (show c.loans.l.length = d.loans.l.length by omega) kI)]; exact congrArg Value.bool (by rw [Bool.and_assoc]; rfl)))
theorem rsameRoyal_calls (r q : RyA) (hs : RySm r) (hs2 : RySm q) (W : World) (hR : RyOk W r) (hQ : RyOk W q) : Calls Tryz.prog 24 #[r.v, q.v] W (Pure (.bool (decide (r.pl = q.pl))) W) := by
  obtain ⟨s1, s2, s3, s4, s5, s6⟩ := id hs
  obtain ⟨u1, u2, u3, u4, u5, u6⟩ := id hs2
  refine calls_start Tryz.func24 rfl rfl ?_
  refine st ?_
  refine RunL.new (New.box rfl) rfl rfl rfl (fun b2 => ?_)
  refine RunL.new (New.box rfl) rfl rfl rfl (fun b3 => ?_)
  refine st ?_
  refine lv (Val.fieldAddr rfl fld_35_0) ?_
  refine lv (Val.load_one rfl (.tail _ (.head _)) ty_31 rfl) ?_
  refine lv (Val.len_sl rfl sl_31) ?_
  refine lv (Val.fieldAddr rfl fld_35_0) ?_
  refine lv (Val.load_one rfl (.head _) ty_31 rfl) ?_
  refine lv (Val.len_sl rfl sl_31) ?_
  refine RunL.orPart (dj := 15) (dp := 23) 8 rfl (fun g15 => by
    have g15' := g15
    try simp only [nH] at g15'
    refine lv (Val.fieldAddr rfl fld_35_2) ?_
    refine lv (Val.load_one rfl (.tail _ (.head _)) ty_32 rfl) ?_
    refine lv (Val.len_sl rfl sl_32) ?_
    refine lv (Val.fieldAddr rfl fld_35_2) ?_
    refine lv (Val.load_one rfl (.head _) ty_32 rfl) ?_
    refine RunL.val (Val.len_sl rfl sl_32) rfl rfl rfl ?_
    refine sv ?_
    exact RunL.segEnd (Sub.cons rfl (Sub.skip rfl (Sub.skip rfl (Sub.skip rfl (Sub.skip rfl (Sub.skip rfl (Sub.skip rfl (Sub.skip rfl (Sub.skip rfl (Sub.same rfl (by rw [g15]) (Sub.refl _))))))))))) (List.Sublist.refl _)
  ) (fun g15 => by
    have g15' := g15
    try simp only [nH] at g15'
    iterate 7 refine RunL.no rfl rfl rfl ?_
    refine sv ?_
    exact RunL.segEnd (Sub.cons rfl (Sub.skip rfl (Sub.skip rfl (Sub.skip rfl (Sub.skip rfl (Sub.skip rfl (Sub.skip rfl (Sub.skip rfl (Sub.skip rfl (Sub.same rfl (by rw [g15]) (Sub.refl _))))))))))) (List.Sublist.refl _)
  ) ?_
  refine st ?_
  refine RunL.orPart (dj := 24) (dp := 32) 8 rfl (fun g24 => by
    have g24' := g24
    try simp only [nH] at g24'
    refine lv (Val.fieldAddr rfl fld_35_3) ?_
    refine lv (Val.load_one rfl (.tail _ (.head _)) ty_33 rfl) ?_
    refine lv (Val.len_sl rfl sl_33) ?_
    refine lv (Val.fieldAddr rfl fld_35_3) ?_
    refine lv (Val.load_one rfl (.head _) ty_33 rfl) ?_
    refine RunL.val (Val.len_sl rfl sl_33) rfl rfl rfl ?_
    refine sv ?_
    exact RunL.segEnd (Sub.cons rfl (Sub.skip rfl (Sub.skip rfl (Sub.skip rfl (Sub.skip rfl (Sub.skip rfl (Sub.skip rfl (Sub.skip rfl (Sub.skip rfl (Sub.same rfl (by rw [g24]) (Sub.refl _))))))))))) (List.Sublist.refl _)
  ) (fun g24 => by
    have g24' := g24
    try simp only [nH] at g24'
    iterate 7 refine RunL.no rfl rfl rfl ?_
    refine sv ?_
    exact RunL.segEnd (Sub.cons rfl (Sub.skip rfl (Sub.skip rfl (Sub.skip rfl (Sub.skip rfl (Sub.skip rfl (Sub.skip rfl (Sub.skip rfl (Sub.skip rfl (Sub.same rfl (by rw [g24]) (Sub.refl _))))))))))) (List.Sublist.refl _)
  ) ?_
  refine st ?_
  refine cn rfl ?_ ?_
  ·intro c0'
   refine st ?_
   refine RunC.ret ?_
   refine RunE.pass_ret ?_
   exact RunE.retP (.r1 rfl (.tmp rfl)) (by first | (rw [ry_same f1 f2 f3]; rfl) | (rw [ry_ne3 (show r.pl.reports ≠ q.pl.reports from ne_at hk hk2 hx hy (by rintro rfl; simp_all))]; done) | (rw [ry_ne2 (show r.pl.shares ≠ q.pl.shares from mapT_ne hk hk2 hx hy (by simp_all))]; done) | (rw [ry_ne1 (show r.pl.terms ≠ q.pl.terms from ne_at hk hk2 hx hy (by rintro rfl; simp_all))]; done) | (refine congrArg Value.bool (decide_eq_false fun e => ?_).symm; have d1 : r.terms.l.length = q.terms.l.length := congrArg (fun z : Ry => z.terms.length) e; have d2 : r.pl.shares.length = q.pl.shares.length := congrArg (fun z : Ry => z.shares.length) e; have d3 : r.reports.l.length = q.reports.l.length := congrArg (fun z : Ry => z.reports.length) e; simp only [RyA.pl, List.length_map] at d2; simp_all; done))
  intro c0'
  have e1 : r.terms.l.length = q.terms.l.length := by (have := c0'.1.1; omega)
  have e2 : r.shares.l.length = q.shares.l.length := by (have := c0'.1.2; omega)
  have e3 : r.reports.l.length = q.reports.l.length := by (have := c0'.2; omega)
  refine st ?_
  refine RunC.loopK (r.terms.l.length) (fun k q => (5, .int .i64 (k : Int)) :: q) (fun _ => _) (fun _ => []) (fun k => r.terms.l.take k = q.terms.l.take k) (by simp) rfl (Sub.consE (t := 5) rfl rfl (Sub.cons (t := 2) rfl (Sub.cons (t := 3) rfl (Sub.nil _)))) (.cons .here rfl (.cons .here rfl .nil)) ?_
  intro k kN kI
  refine st ?_
  refine lv (Val.fieldAddr rfl fld_35_0) ?_
  refine lv (Val.load_one rfl (.tail _ (.head _)) ty_31 rfl) ?_
  refine lv (Val.len_sl rfl sl_31) ?_
  refine cn rfl ?_ ?_
  ·intro c1'
   have hk : k < r.terms.l.length := by omega
   have hk2 : k < q.terms.l.length := by omega
   obtain ⟨x, hx⟩ : ∃ x, r.terms.l[k] = x := ⟨_, rfl⟩
   obtain ⟨y, hy⟩ : ∃ y, q.terms.l[k] = y := ⟨_, rfl⟩
   refine st ?_
   refine RunC.draw 10 fol_ (.cons .here rfl (.cons .here rfl .nil)) ?_
   refine va 0 rfl (Val.fieldAddr rfl fld_35_0) rfl rfl rfl (.cons .here rfl (.cons .here rfl .nil)) rfl ?_
   refine va 1 rfl (Val.load_one rfl (.tail _ (.head _)) ty_31 rfl) rfl rfl rfl (.cons .here rfl (.cons .here rfl .nil)) rfl ?_
   refine va 2 rfl (Val.pure rfl) rfl rfl rfl (.cons .here rfl (.cons .here rfl .nil)) rfl ?_
   refine va 3 rfl (Val.indexAddr_slp rfl rfl sl_31 (by omega) (by omega) (Sl.ptrM hR.terms hk)) rfl rfl rfl (.cons .here rfl (.cons .here rfl .nil)) rfl ?_
   refine va 4 rfl (Val.load_gen rfl (fun w hm => Sl.loadX hR.terms (by decide) hm (by simp) ty_109 hk hx)) rfl rfl rfl (.cons .here rfl (.cons .here rfl .nil)) rfl ?_
   refine va 5 rfl (Val.fieldAddr rfl fld_35_0) rfl rfl rfl (.cons .here rfl (.cons .here rfl .nil)) rfl ?_
   refine va 6 rfl (Val.load_one rfl (.head _) ty_31 rfl) rfl rfl rfl (.cons .here rfl (.cons .here rfl .nil)) rfl ?_
   refine va 7 rfl (Val.pure rfl) rfl rfl rfl (.cons .here rfl (.cons .here rfl .nil)) rfl ?_
   refine va 8 rfl (Val.indexAddr_slp rfl rfl sl_31 (by omega) (by omega) (Sl.ptrM hQ.terms hk2)) rfl rfl rfl (.cons .here rfl (.cons .here rfl .nil)) rfl ?_
   refine va 9 rfl (Val.load_gen rfl (fun w hm => Sl.loadX hQ.terms (by decide) hm (by simp) ty_109 hk2 hy)) rfl rfl rfl (.cons .here rfl (.cons .here rfl .nil)) rfl ?_
   refine RunA.toB (by kernel_rfl) ?_
   refine RunB.one (i := 10) (by kernel_rfl) ?_
   refine RunI.val rfl (Val.neq_flat rfl rfl eqB_109 (kl_109 _ _ _ _ _ _ )) rfl rfl rfl (RunK.toB ?_)
   refine RunB.done (by kernel_rfl) ?_
   refine st ?_
   refine cn rfl ?_ ?_
   ·intro c2'
    refine st ?_
    refine RunC.ret ?_
    refine RunE.block_ret ?_
    refine RunE.pass_ret ?_
    refine RunE.pass_ret ?_
    refine RunE.block_ret ?_
    refine RunE.pass_ret ?_
    exact RunE.retP (.r1 rfl (.tmp rfl)) (by first | (rw [ry_same f1 f2 f3]; rfl) | (rw [ry_ne3 (show r.pl.reports ≠ q.pl.reports from ne_at hk hk2 hx hy (by rintro rfl; simp_all))]; done) | (rw [ry_ne2 (show r.pl.shares ≠ q.pl.shares from mapT_ne hk hk2 hx hy (by simp_all))]; done) | (rw [ry_ne1 (show r.pl.terms ≠ q.pl.terms from ne_at hk hk2 hx hy (by rintro rfl; simp_all))]; done) | (refine congrArg Value.bool (decide_eq_false fun e => ?_).symm; have d1 : r.terms.l.length = q.terms.l.length := congrArg (fun z : Ry => z.terms.length) e; have d2 : r.pl.shares.length = q.pl.shares.length := congrArg (fun z : Ry => z.shares.length) e; have d3 : r.reports.l.length = q.reports.l.length := congrArg (fun z : Ry => z.reports.length) e; simp only [RyA.pl, List.length_map] at d2; simp_all; done))
   intro c2'
   refine st ?_
   refine lv (Val.add rfl rfl (IntWalk.i64_in _ ⟨by omega, by omega⟩)) ?_
   exact RunE.round (by omega) (eqT_step hk hk2 hx hy kI (by cases x; cases y; simp_all)) rfl (Sub.consE (t := 5) rfl rfl (Sub.cons (t := 2) rfl (Sub.cons (t := 3) rfl (Sub.nil _)))) (.cons .here rfl (.cons .here rfl .nil))
  intro c1'
  obtain rfl : k = r.terms.l.length := by omega
  have f1 : r.pl.terms = q.pl.terms := eq_end e1 kI
  clear kI kN
  refine RunC.exit ?_
  refine RunE.pass_exit ?_
  refine RunE.pass_exit ?_
  refine RunE.block_here ?_
  refine st ?_
  refine RunC.loopK (r.shares.l.length) (fun k q => (6, .int .i64 (k : Int)) :: q) (fun _ => _) (fun _ => []) (fun k => (r.shares.l.map (·.l)).take k = (q.shares.l.map (·.l)).take k) (by simp) rfl (Sub.consE (t := 6) rfl rfl (Sub.cons (t := 2) rfl (Sub.cons (t := 3) rfl (Sub.nil _)))) (.cons .here rfl (.cons .here rfl .nil)) ?_
  intro k kN kI
  refine st ?_
  refine lv (Val.fieldAddr rfl fld_35_2) ?_
  refine lv (Val.load_one rfl (.tail _ (.head _)) ty_32 rfl) ?_
  refine lv (Val.len_sl rfl sl_32) ?_
  refine cn rfl ?_ ?_
  ·intro c3'
   have hk : k < r.shares.l.length := by omega
   have hk2 : k < q.shares.l.length := by omega
   obtain ⟨x, hx⟩ : ∃ x, r.shares.l[k] = x := ⟨_, rfl⟩
   obtain ⟨y, hy⟩ : ∃ y, q.shares.l[k] = y := ⟨_, rfl⟩
   have hxm : x ∈ r.shares.l := hx ▸ List.getElem_mem hk
   have hym : y ∈ q.shares.l := hy ▸ List.getElem_mem hk2
   refine st ?_
   refine RunC.draw 10 fol_ (.cons .here rfl (.cons .here rfl .nil)) ?_
   refine va 0 rfl (Val.fieldAddr rfl fld_35_2) rfl rfl rfl (.cons .here rfl (.cons .here rfl .nil)) rfl ?_
   refine va 1 rfl (Val.load_one rfl (.tail _ (.head _)) ty_32 rfl) rfl rfl rfl (.cons .here rfl (.cons .here rfl .nil)) rfl ?_
   refine va 2 rfl (Val.pure rfl) rfl rfl rfl (.cons .here rfl (.cons .here rfl .nil)) rfl ?_
   refine va 3 rfl (Val.indexAddr_slp rfl rfl sl_32 (by omega) (by omega) (Sl.ptrM hR.shares hk)) rfl rfl rfl (.cons .here rfl (.cons .here rfl .nil)) rfl ?_
   refine va 4 rfl (Val.load_gen rfl (fun w hm => Sl.loadM1 hR.shares (by decide) hm (by simp) ty_27 hk (v := x.v) (by simp [SA.cell, hx]))) rfl rfl rfl (.cons .here rfl (.cons .here rfl .nil)) rfl ?_
   refine va 5 rfl (Val.fieldAddr rfl fld_35_2) rfl rfl rfl (.cons .here rfl (.cons .here rfl .nil)) rfl ?_
   refine va 6 rfl (Val.load_one rfl (.head _) ty_32 rfl) rfl rfl rfl (.cons .here rfl (.cons .here rfl .nil)) rfl ?_
   refine va 7 rfl (Val.pure rfl) rfl rfl rfl (.cons .here rfl (.cons .here rfl .nil)) rfl ?_
   refine va 8 rfl (Val.indexAddr_slp rfl rfl sl_32 (by omega) (by omega) (Sl.ptrM hQ.shares hk2)) rfl rfl rfl (.cons .here rfl (.cons .here rfl .nil)) rfl ?_
   refine va 9 rfl (Val.load_gen rfl (fun w hm => Sl.loadM1 hQ.shares (by decide) hm (by simp) ty_27 hk2 (v := y.v) (by simp [SA.cell, hy]))) rfl rfl rfl (.cons .here rfl (.cons .here rfl .nil)) rfl ?_
   refine RunA.toB (by kernel_rfl) ?_
   refine RunB.one (i := 10) (by kernel_rfl) ?_
   refine RunI.callP rfl (isCall_func rfl ent_58) rfl rfl rfl (fun w hm => (rsameInts_calls x y w ((hR.rows x hxm).mono0 (by decide) hm) ((hQ.rows y hym).mono0 (by decide) hm) (by have := s4 x hxm; omega) (by have := u4 y hym; omega))) (RunK.toB ?_)
   refine RunB.one (i := 11) (by kernel_rfl) ?_
   refine RunI.val rfl (Val.pure rfl) rfl rfl rfl (RunK.toB ?_)
   refine RunB.done (by kernel_rfl) ?_
   refine st ?_
   refine cn rfl ?_ ?_
   ·intro c4'
    refine st ?_
    refine RunC.ret ?_
    refine RunE.block_ret ?_
    refine RunE.pass_ret ?_
    refine RunE.pass_ret ?_
    refine RunE.block_ret ?_
    refine RunE.pass_ret ?_
    exact RunE.retP (.r1 rfl (.tmp rfl)) (by first | (rw [ry_same f1 f2 f3]; rfl) | (rw [ry_ne3 (show r.pl.reports ≠ q.pl.reports from ne_at hk hk2 hx hy (by rintro rfl; simp_all))]; done) | (rw [ry_ne2 (show r.pl.shares ≠ q.pl.shares from mapT_ne hk hk2 hx hy (by simp_all))]; done) | (rw [ry_ne1 (show r.pl.terms ≠ q.pl.terms from ne_at hk hk2 hx hy (by rintro rfl; simp_all))]; done) | (refine congrArg Value.bool (decide_eq_false fun e => ?_).symm; have d1 : r.terms.l.length = q.terms.l.length := congrArg (fun z : Ry => z.terms.length) e; have d2 : r.pl.shares.length = q.pl.shares.length := congrArg (fun z : Ry => z.shares.length) e; have d3 : r.reports.l.length = q.reports.l.length := congrArg (fun z : Ry => z.reports.length) e; simp only [RyA.pl, List.length_map] at d2; simp_all; done))
   intro c4'
   refine st ?_
   refine lv (Val.add rfl rfl (IntWalk.i64_in _ ⟨by omega, by omega⟩)) ?_
   exact RunE.round (by omega) (mapT_step hk hk2 hx hy kI (by simp_all)) rfl (Sub.consE (t := 6) rfl rfl (Sub.cons (t := 2) rfl (Sub.cons (t := 3) rfl (Sub.nil _)))) (.cons .here rfl (.cons .here rfl .nil))
  intro c3'
  obtain rfl : k = r.shares.l.length := by omega
  have f2 : r.pl.shares = q.pl.shares := eq_end (show (r.shares.l.map (·.l)).length = (q.shares.l.map (·.l)).length by simp only [List.length_map]; omega) (by show List.take (r.shares.l.map (·.l)).length (r.shares.l.map (·.l)) = List.take (r.shares.l.map (·.l)).length (q.shares.l.map (·.l)); rw [List.length_map]; exact kI)
  clear kI kN
  refine RunC.exit ?_
  refine RunE.pass_exit ?_
  refine RunE.pass_exit ?_
  refine RunE.block_here ?_
  refine st ?_
  refine RunC.loopK (r.reports.l.length) (fun k q => (7, .int .i64 (k : Int)) :: q) (fun _ => _) (fun _ => []) (fun k => r.reports.l.take k = q.reports.l.take k) (by simp) rfl (Sub.consE (t := 7) rfl rfl (Sub.cons (t := 2) rfl (Sub.cons (t := 3) rfl (Sub.nil _)))) (.cons .here rfl (.cons .here rfl .nil)) ?_
  intro k kN kI
  refine st ?_
  refine lv (Val.fieldAddr rfl fld_35_3) ?_
  refine lv (Val.load_one rfl (.tail _ (.head _)) ty_33 rfl) ?_
  refine lv (Val.len_sl rfl sl_33) ?_
  refine cn rfl ?_ ?_
  ·intro c5'
   have hk : k < r.reports.l.length := by omega
   have hk2 : k < q.reports.l.length := by omega
   obtain ⟨x, hx⟩ : ∃ x, r.reports.l[k] = x := ⟨_, rfl⟩
   obtain ⟨y, hy⟩ : ∃ y, q.reports.l[k] = y := ⟨_, rfl⟩
   refine st ?_
   refine RunC.draw 10 fol_ (.cons .here rfl (.cons .here rfl .nil)) ?_
   refine va 0 rfl (Val.fieldAddr rfl fld_35_3) rfl rfl rfl (.cons .here rfl (.cons .here rfl .nil)) rfl ?_
   refine va 1 rfl (Val.load_one rfl (.tail _ (.head _)) ty_33 rfl) rfl rfl rfl (.cons .here rfl (.cons .here rfl .nil)) rfl ?_
   refine va 2 rfl (Val.pure rfl) rfl rfl rfl (.cons .here rfl (.cons .here rfl .nil)) rfl ?_
   refine va 3 rfl (Val.indexAddr_slp rfl rfl sl_33 (by omega) (by omega) (Sl.ptrM hR.reports hk)) rfl rfl rfl (.cons .here rfl (.cons .here rfl .nil)) rfl ?_
   refine va 4 rfl (Val.load_gen rfl (fun w hm => Sl.loadX hR.reports (by decide) hm (by simp) ty_111 hk hx)) rfl rfl rfl (.cons .here rfl (.cons .here rfl .nil)) rfl ?_
   refine va 5 rfl (Val.fieldAddr rfl fld_35_3) rfl rfl rfl (.cons .here rfl (.cons .here rfl .nil)) rfl ?_
   refine va 6 rfl (Val.load_one rfl (.head _) ty_33 rfl) rfl rfl rfl (.cons .here rfl (.cons .here rfl .nil)) rfl ?_
   refine va 7 rfl (Val.pure rfl) rfl rfl rfl (.cons .here rfl (.cons .here rfl .nil)) rfl ?_
   refine va 8 rfl (Val.indexAddr_slp rfl rfl sl_33 (by omega) (by omega) (Sl.ptrM hQ.reports hk2)) rfl rfl rfl (.cons .here rfl (.cons .here rfl .nil)) rfl ?_
   refine va 9 rfl (Val.load_gen rfl (fun w hm => Sl.loadX hQ.reports (by decide) hm (by simp) ty_111 hk2 hy)) rfl rfl rfl (.cons .here rfl (.cons .here rfl .nil)) rfl ?_
   refine RunA.toB (by kernel_rfl) ?_
   refine RunB.one (i := 10) (by kernel_rfl) ?_
   refine RunI.val rfl (Val.neq_flat rfl rfl eqB_111 (kl_111 _ _ _ _ _ _ _ _ )) rfl rfl rfl (RunK.toB ?_)
   refine RunB.done (by kernel_rfl) ?_
   refine st ?_
   refine cn rfl ?_ ?_
   ·intro c6'
    refine st ?_
    refine RunC.ret ?_
    refine RunE.block_ret ?_
    refine RunE.pass_ret ?_
    refine RunE.pass_ret ?_
    refine RunE.block_ret ?_
    refine RunE.pass_ret ?_
    exact RunE.retP (.r1 rfl (.tmp rfl)) (by first | (rw [ry_same f1 f2 f3]; rfl) | (rw [ry_ne3 (show r.pl.reports ≠ q.pl.reports from ne_at hk hk2 hx hy (by rintro rfl; simp_all))]; done) | (rw [ry_ne2 (show r.pl.shares ≠ q.pl.shares from mapT_ne hk hk2 hx hy (by simp_all))]; done) | (rw [ry_ne1 (show r.pl.terms ≠ q.pl.terms from ne_at hk hk2 hx hy (by rintro rfl; simp_all))]; done) | (refine congrArg Value.bool (decide_eq_false fun e => ?_).symm; have d1 : r.terms.l.length = q.terms.l.length := congrArg (fun z : Ry => z.terms.length) e; have d2 : r.pl.shares.length = q.pl.shares.length := congrArg (fun z : Ry => z.shares.length) e; have d3 : r.reports.l.length = q.reports.l.length := congrArg (fun z : Ry => z.reports.length) e; simp only [RyA.pl, List.length_map] at d2; simp_all; done))
   intro c6'
   refine st ?_
   refine lv (Val.add rfl rfl (IntWalk.i64_in _ ⟨by omega, by omega⟩)) ?_
   exact RunE.round (by omega) (eqT_step hk hk2 hx hy kI (by cases x; cases y; simp_all)) rfl (Sub.consE (t := 7) rfl rfl (Sub.cons (t := 2) rfl (Sub.cons (t := 3) rfl (Sub.nil _)))) (.cons .here rfl (.cons .here rfl .nil))
  intro c5'
  obtain rfl : k = r.reports.l.length := by omega
  have f3 : r.pl.reports = q.pl.reports := eq_end e3 kI
  refine RunC.exit ?_
  refine RunE.pass_exit ?_
  refine RunE.pass_exit ?_
  refine RunE.block_here ?_
  refine st ?_
  refine lv (Val.fieldAddr rfl fld_35_1) ?_
  refine lv (Val.load_one rfl (.tail _ (.head _)) ty_27 rfl) ?_
  refine lv (Val.fieldAddr rfl fld_35_1) ?_
  refine lv (Val.load_one rfl (.head _) ty_27 rfl) ?_
  refine RunL.callP (isCall_func rfl ent_58) rfl rfl rfl (fun w hm => (rsameInts_calls r.prices q.prices w (hR.prices.mono0 (by decide) hm) (hQ.prices.mono0 (by decide) hm) (by omega) (by omega))) ?_
  refine st ?_
  refine RunL.andPart (dj := 93) (dp := 99) 6 rfl (fun g93 => by
    have g93' := g93
    try simp only [nH] at g93'
    refine lv (Val.fieldAddr rfl fld_35_4) ?_
    refine lv (Val.load_one rfl (.tail _ (.head _)) ty_27 rfl) ?_
    refine lv (Val.fieldAddr rfl fld_35_4) ?_
    refine lv (Val.load_one rfl (.head _) ty_27 rfl) ?_
    refine RunL.callP (isCall_func rfl ent_58) rfl rfl rfl (fun w hm => (rsameInts_calls r.paid q.paid w (hR.paid.mono0 (by decide) hm) (hQ.paid.mono0 (by decide) hm) (by omega) (by omega))) ?_
    refine sv ?_
    exact RunL.segEnd (Sub.cons rfl (Sub.skip rfl (Sub.skip rfl (Sub.skip rfl (Sub.skip rfl (Sub.skip rfl (Sub.skip rfl (Sub.same rfl (by rw [g93]) (Sub.refl _))))))))) (List.Sublist.refl _)
  ) (fun g93 => by
    have g93' := g93
    try simp only [nH] at g93'
    iterate 5 refine RunL.no rfl rfl rfl ?_
    refine sv ?_
    exact RunL.segEnd (Sub.cons rfl (Sub.skip rfl (Sub.skip rfl (Sub.skip rfl (Sub.skip rfl (Sub.skip rfl (Sub.skip rfl (Sub.same rfl (by rw [g93]) (Sub.refl _))))))))) (List.Sublist.refl _)
  ) ?_
  refine st ?_
  refine RunC.ret ?_
  exact RunE.retP (.r1 rfl (.tmp rfl)) (by first | (rw [ry_same f1 f2 f3]; rfl) | (rw [ry_ne3 (show r.pl.reports ≠ q.pl.reports from ne_at hk hk2 hx hy (by rintro rfl; simp_all))]; done) | (rw [ry_ne2 (show r.pl.shares ≠ q.pl.shares from mapT_ne hk hk2 hx hy (by simp_all))]; done) | (rw [ry_ne1 (show r.pl.terms ≠ q.pl.terms from ne_at hk hk2 hx hy (by rintro rfl; simp_all))]; done) | (refine congrArg Value.bool (decide_eq_false fun e => ?_).symm; have d1 : r.terms.l.length = q.terms.l.length := congrArg (fun z : Ry => z.terms.length) e; have d2 : r.pl.shares.length = q.pl.shares.length := congrArg (fun z : Ry => z.shares.length) e; have d3 : r.reports.l.length = q.reports.l.length := congrArg (fun z : Ry => z.reports.length) e; simp only [RyA.pl, List.length_map] at d2; simp_all; done))
end Go.Proofs.YtleamcmljcdapaaGreatDoor
namespace Go.Bk
open Go Go.Eng Go.RowKit
def len0 (t : Tr) (c : Cb) (p : Ps) : Int := [(t.ways.length : Int), (t.stay.length : Int), (t.light.length : Int), (c.homes.length : Int), (c.loans.length : Int), (p.cards.length : Int)].foldl Max.max (t.fr.length : Int)
def len1 (t : Tr) (c : Cb) (r : Ry) (p : Ps) : Int := [(r.terms.length : Int), (r.paid.length : Int), (r.prices.length : Int), (r.shares.length : Int), (r.reports.length : Int)].foldl Max.max (len0 t c p)
def len2 {α : Type} (n : Int) (l : List (List α)) : Int := l.foldl (fun n x => Max.max n (x.length : Int)) n
theorem len2_s {α : Type} {n : Int} {l : List (List α)} {k : Nat} (hk : k < l.length) {x : List α} (hx : l[k] = x) : len2 n (l.take (k + 1)) = Max.max (len2 n (l.take k)) (x.length : Int) := by
  unfold len2
  rw [List.take_succ_eq_append_getElem hk, List.foldl_append, hx]
  rfl
theorem len2_le {α : Type} : ∀ (l : List (List α)) (n : Int), n ≤ len2 n l ∧ ∀ x ∈ l, (x.length : Int) ≤ len2 n l
  | [], n => ⟨Int.le_refl _, fun x h => by cases h⟩
  | y :: l, n => by
    obtain ⟨h1, h2⟩ := len2_le l (Max.max n (y.length : Int))
    have e : len2 n (y :: l) = len2 (Max.max n (y.length : Int)) l := rfl
    rw [e]
    refine ⟨by omega, fun x hx => ?_⟩
    rcases List.mem_cons.1 hx with rfl | hx
    · omega
    · exact h2 x hx
def lenX (t : Tr) (c : Cb) (r : Ry) (p : Ps) : Int := len2 (len2 (len1 t c r p) t.ways) r.shares
def greatX (t : Tr) (c : Cb) (r : Ry) (p : Ps) : Bool := decide (40 < lenX t c r p)
structure Few (t : Tr) (c : Cb) (r : Ry) (p : Ps) : Prop where
  fr : t.fr.length ≤ 40
  ways : t.ways.length ≤ 40
  rows : ∀ x ∈ t.ways, x.length ≤ 40
  stay : t.stay.length ≤ 40
  light : t.light.length ≤ 40
  homes : c.homes.length ≤ 40
  loans : c.loans.length ≤ 40
  cards : p.cards.length ≤ 40
  terms : r.terms.length ≤ 40
  paid : r.paid.length ≤ 40
  prices : r.prices.length ≤ 40
  shares : r.shares.length ≤ 40
  srows : ∀ x ∈ r.shares, x.length ≤ 40
  reports : r.reports.length ≤ 40
theorem few_of {t : Tr} {c : Cb} {r : Ry} {p : Ps} (h : greatX t c r p = false) : Few t c r p := by
  have h0 : lenX t c r p ≤ 40 := by have := of_decide_eq_false h; omega
  have h3 := len2_le r.shares (len2 (len1 t c r p) t.ways)
  have h2 := len2_le t.ways (len1 t c r p)
  have h1 := fold_max [(r.terms.length : Int), (r.paid.length : Int), (r.prices.length : Int), (r.shares.length : Int), (r.reports.length : Int)] (len0 t c p)
  have h4 := fold_max [(t.ways.length : Int), (t.stay.length : Int), (t.light.length : Int), (c.homes.length : Int), (c.loans.length : Int), (p.cards.length : Int)] (t.fr.length : Int)
  change _ ≤ lenX t c r p ∧ ∀ x ∈ r.shares, _ ≤ lenX t c r p at h3
  change _ ≤ len1 t c r p ∧ ∀ q ∈ _, q ≤ len1 t c r p at h1
  change _ ≤ len0 t c p ∧ ∀ q ∈ _, q ≤ len0 t c p at h4
  have m1 := h1.2
  have m4 := h4.2
  simp only [List.mem_cons, List.not_mem_nil, or_false, forall_eq_or_imp, forall_eq] at m1 m4
  refine ⟨?_, ?_, fun x hx => ?_, ?_, ?_, ?_, ?_, ?_, ?_, ?_, ?_, ?_, fun x hx => ?_, ?_⟩
  case refine_3 => have := h2.2 x hx; omega
  case refine_13 => have := h3.2 x hx; omega
  all_goals omega
/-! ### The examples -/
def exT : Tr := ⟨360, [⟨30, 40⟩, ⟨20, 20⟩, ⟨60, 70⟩], [[⟨0, 0⟩, ⟨15, 20⟩, ⟨45, 50⟩], [⟨15, 20⟩, ⟨0, 0⟩, ⟨30, 35⟩], [⟨45, 50⟩, ⟨30, 35⟩, ⟨0, 0⟩]], [⟨10, 15⟩, ⟨20, 20⟩, ⟨5, 10⟩], [⟨420, 480⟩, ⟨380, 600⟩, ⟨500, 540⟩]⟩
def exC : Cb := ⟨4, [0, 1, 2], 1, [⟨0, 0, 0, 0⟩, ⟨0, 1, 1, 0⟩, ⟨1, 0, 0, 0⟩, ⟨1, 1, 1, 0⟩, ⟨2, 0, 0, 1⟩]⟩
def exR : Ry := ⟨[⟨20, 3, 30⟩, ⟨25, 12, 25⟩], [99], [[334, 333, 333]], [⟨0, 0, 0, 5⟩, ⟨1, 0, 4, 7⟩], [0, 0]⟩
def exP : Ps := ⟨[⟨⟨100, 101⟩, ⟨500, 505⟩, 0⟩], ⟨3, 5⟩, ⟨10, 20⟩⟩
theorem exT_ok : tourX exT = true := by decide
theorem exC_ok : cabX exC = true := by decide
theorem exR_ok : royalX exR = true := by decide
theorem exP_ok : printsX exP = true := by decide
def dig (u : Nat) : Str := if u < 10 then [UInt8.ofNat (48 + u)] else if u < 100 then [UInt8.ofNat (48 + u / 10), UInt8.ofNat (48 + u % 10)] else [UInt8.ofNat (48 + u / 100), UInt8.ofNat (48 + u / 10 % 10), UInt8.ofNat (48 + u % 10)]
theorem dig_dec {u : Nat} (h : u < 1000) : Lib.decDigits u = dig u := by
  unfold dig
  split
  · rw [Lib.decDigits, dif_pos (by assumption)]
  · rename_i h1
    rw [Lib.decDigits, dif_neg h1]
    split
    · rw [Lib.decDigits, dif_pos (by omega)]
      rfl
    · rw [Lib.decDigits, dif_neg (by omega), Lib.decDigits, dif_pos (by omega)]
      have e : u / 10 / 10 = u / 100 := by omega
      rw [e]
      rfl
theorem itoa_dig {n : Int} (h : 0 ≤ n) (h2 : n < 1000) : Lib.itoa n = dig n.toNat := by
  unfold Lib.itoa
  rw [if_neg (by omega), dig_dec (by omega)]
def exTS : Str := [116, 111, 117, 114, 32, 51, 54, 48, 10, 102, 114, 111, 109, 32, 51, 48, 46, 46, 52, 48, 32, 50, 48, 46, 46, 50, 48, 32, 54, 48, 46, 46, 55, 48, 10, 119, 97, 121, 115, 32, 48, 46, 46, 48, 32, 49, 53, 46, 46, 50, 48, 32, 52, 53, 46, 46, 53, 48, 10, 119, 97, 121, 115, 32, 49, 53, 46, 46, 50, 48, 32, 48, 46, 46, 48, 32, 51, 48, 46, 46, 51, 53, 10, 119, 97, 121, 115, 32, 52, 53, 46, 46, 53, 48, 32, 51, 48, 46, 46, 51, 53, 32, 48, 46, 46, 48, 10, 115, 116, 97, 121, 32, 49, 48, 46, 46, 49, 53, 32, 50, 48, 46, 46, 50, 48, 32, 53, 46, 46, 49, 48, 10, 108, 105, 103, 104, 116, 32, 52, 50, 48, 46, 46, 52, 56, 48, 32, 51, 56, 48, 46, 46, 54, 48, 48, 32, 53, 48, 48, 46, 46, 53, 52, 48, 10]
def exCS : Str := [99, 97, 98, 105, 110, 101, 116, 32, 52, 32, 49, 10, 104, 111, 109, 101, 115, 32, 48, 32, 49, 32, 50, 10, 116, 97, 107, 101, 32, 48, 32, 48, 10, 116, 97, 107, 101, 32, 49, 32, 49, 10, 98, 97, 99, 107, 32, 48, 32, 48, 10, 98, 97, 99, 107, 32, 49, 32, 49, 10, 108, 111, 111, 107, 32, 49, 32, 48, 10]
def exRS : Str := [114, 111, 121, 97, 108, 10, 97, 103, 101, 110, 116, 32, 50, 48, 32, 51, 32, 51, 48, 32, 48, 10, 97, 103, 101, 110, 116, 32, 50, 53, 32, 49, 50, 32, 50, 53, 32, 48, 10, 107, 105, 110, 100, 32, 57, 57, 32, 51, 51, 52, 32, 51, 51, 51, 32, 51, 51, 51, 10, 114, 101, 112, 111, 114, 116, 32, 48, 32, 48, 32, 48, 32, 53, 10, 114, 101, 112, 111, 114, 116, 32, 49, 32, 48, 32, 52, 32, 55, 10]
def exPS : Str := [80, 1, 0, 100, 0, 1, 1, 244, 0, 5, 0, 0, 0, 3, 0, 2, 0, 10, 0, 10, 29, 39]
set_option maxRecDepth 10000 in
theorem exT_text : tourS exT = exTS := by
  simp (config := { decide := true }) only [tourS, exT, rowS, lineS, spS, List.map_cons, List.map_nil, itoa_dig]
  try rfl
theorem exC_text : cabS exC = exCS := by
  simp (config := { decide := true }) only [cabS, exC, loanS, lineS, List.map_cons, List.map_nil, itoa_dig, if_true, if_false]
theorem exR_text : royalS exR = exRS := by
  simp (config := { decide := true }) only [royalS, exR, agentS, kindS, reportS, lineS, List.map_cons, List.map_nil, List.zip_cons_cons, List.zip_nil_right, itoa_dig]
theorem exP_bytes : psS exP = exPS := by decide
theorem ndec {p : Prop} [Decidable p] (h : p) : (!decide p) = false := by simp [h]
set_option maxRecDepth 10000 in
theorem exT_len : exTS.length = 165 := rfl
set_option maxRecDepth 10000 in
theorem exC_len : exCS.length = 69 := rfl
set_option maxRecDepth 10000 in
theorem exR_len : exRS.length = 89 := rfl
theorem exT_read : readX tourStep zeroT tourX tourS exTS = .ok exT := readX_ok parse_tour exT_ok exT_text (by rw [exT_len]; decide)
theorem exC_read : readX cabStep zeroC cabX cabS exCS = .ok exC := readX_ok parse_cab exC_ok exC_text (by rw [exC_len]; decide)
theorem exR_read : readX royStep zeroR royalX royalS exRS = .ok exR := readX_ok parse_roy exR_ok exR_text (by rw [exR_len]; decide)
theorem exP_read : readPs exPS = .ok exP := by rw [← exP_bytes]; exact readPs_ok exP_ok
end Go.Bk
namespace Go.Proofs.YtleamcmljcdapaaGreatDoor
open Go Go.Eng Go.Bk Go.RowKit

theorem rsameBytes_calls (s u : SA UInt8) (W : World) (hS : s.ok byC 1 W) (hU : u.ok byC 1 W) : Calls Tryz.prog 29 #[s.v, u.v] W (Pure (.bool (decide (s.l = u.l))) W) := by
  refine calls_start Tryz.func29 rfl rfl ?_
  refine st ?_
  refine lv (Val.bytesStr rfl sls_58 und_5 und_9 (fun w hm => hS.mono0 (by decide) hm)) ?_
  refine lv (Val.bytesStr rfl sls_58 und_5 und_9 (fun w hm => hU.mono0 (by decide) hm)) ?_
  refine lv (Val.eqlStr rfl rfl) ?_
  refine RunC.ret ?_
  exact RunE.retP (.r1 rfl (.tmp rfl)) (by first | rfl | simp)
theorem great_calls (t : TrA) (c : CbA) (r : RyA) (p : PsA) (W : World) (hT : TrOk W t) (hR : RyOk W r) (hn1 : t.ways.l.length ≤ 9223372036854775807) (hn2 : r.shares.l.length ≤ 9223372036854775807) : Calls Tryz.prog 8 #[t.v, c.v, r.v, p.v] W (Pure (.bool (greatX t.pl c.pl r.pl p.pl)) W) := by
  have e1 : t.pl.ways.length = t.ways.l.length := by simp [TrA.pl]
  have e2 : r.pl.shares.length = r.shares.l.length := by simp [RyA.pl]
  have f0 : len0 t.pl c.pl p.pl = [(t.ways.l.length : Int), (t.stay.l.length : Int), (t.light.l.length : Int), (c.homes.l.length : Int), (c.loans.l.length : Int), (p.cards.l.length : Int)].foldl Max.max (t.fr.l.length : Int) := by unfold len0; rw [e1]; rfl
  have f1 : len1 t.pl c.pl r.pl p.pl = [(r.terms.l.length : Int), (r.paid.l.length : Int), (r.prices.l.length : Int), (r.shares.l.length : Int), (r.reports.l.length : Int)].foldl Max.max (len0 t.pl c.pl p.pl) := by unfold len1; rw [e2]; rfl
  refine calls_start Tryz.func8 rfl rfl ?_
  refine st ?_
  refine RunL.new (New.box rfl) rfl rfl rfl (fun b4 => ?_)
  refine RunL.new (New.box rfl) rfl rfl rfl (fun b5 => ?_)
  refine RunL.new (New.box rfl) rfl rfl rfl (fun b6 => ?_)
  refine RunL.new (New.box rfl) rfl rfl rfl (fun b7 => ?_)
  refine st ?_
  refine lv (Val.fieldAddr rfl fld_25_1) ?_
  refine lv (Val.load_one rfl (.tail _ (.tail _ (.tail _ (.head _)))) ty_22 rfl) ?_
  refine lv (Val.len_sl rfl sl_22) ?_
  refine lv (Val.fieldAddr rfl fld_25_2) ?_
  refine lv (Val.load_one rfl (.tail _ (.tail _ (.tail _ (.head _)))) ty_23 rfl) ?_
  refine lv (Val.len_sl rfl sl_23) ?_
  refine lv (Val.fieldAddr rfl fld_25_3) ?_
  refine lv (Val.load_one rfl (.tail _ (.tail _ (.tail _ (.head _)))) ty_22 rfl) ?_
  refine lv (Val.len_sl rfl sl_22) ?_
  refine lv (Val.fieldAddr rfl fld_25_4) ?_
  refine lv (Val.load_one rfl (.tail _ (.tail _ (.tail _ (.head _)))) ty_22 rfl) ?_
  refine lv (Val.len_sl rfl sl_22) ?_
  refine lv (Val.fieldAddr rfl fld_30_1) ?_
  refine lv (Val.load_one rfl (.tail _ (.tail _ (.head _))) ty_27 rfl) ?_
  refine lv (Val.len_sl rfl sl_27) ?_
  refine lv (Val.fieldAddr rfl fld_30_3) ?_
  refine lv (Val.load_one rfl (.tail _ (.tail _ (.head _))) ty_28 rfl) ?_
  refine lv (Val.len_sl rfl sl_28) ?_
  refine lv (Val.fieldAddr rfl fld_40_0) ?_
  refine lv (Val.load_one rfl (.head _) ty_36 rfl) ?_
  refine lv (Val.len_sl rfl sl_36) ?_
  refine RunL.val (Val.maxN (qs := [(t.ways.l.length : Int), (t.stay.l.length : Int), (t.light.l.length : Int), (c.homes.l.length : Int), (c.loans.l.length : Int), (p.cards.l.length : Int)]) rfl rfl) rfl rfl rfl ?_
  refine vp rfl rfl rfl rfl ?_
  refine nsr ?_
  rw [← f0]
  refine st ?_
  refine lv (Val.fieldAddr rfl fld_35_0) ?_
  refine lv (Val.load_one rfl (.tail _ (.head _)) ty_31 rfl) ?_
  refine lv (Val.len_sl rfl sl_31) ?_
  refine lv (Val.fieldAddr rfl fld_35_4) ?_
  refine lv (Val.load_one rfl (.tail _ (.head _)) ty_27 rfl) ?_
  refine lv (Val.len_sl rfl sl_27) ?_
  refine lv (Val.fieldAddr rfl fld_35_1) ?_
  refine lv (Val.load_one rfl (.tail _ (.head _)) ty_27 rfl) ?_
  refine lv (Val.len_sl rfl sl_27) ?_
  refine lv (Val.fieldAddr rfl fld_35_2) ?_
  refine lv (Val.load_one rfl (.tail _ (.head _)) ty_32 rfl) ?_
  refine lv (Val.len_sl rfl sl_32) ?_
  refine lv (Val.fieldAddr rfl fld_35_3) ?_
  refine lv (Val.load_one rfl (.tail _ (.head _)) ty_33 rfl) ?_
  refine lv (Val.len_sl rfl sl_33) ?_
  refine RunL.val (Val.maxN (qs := [(r.terms.l.length : Int), (r.paid.l.length : Int), (r.prices.l.length : Int), (r.shares.l.length : Int), (r.reports.l.length : Int)]) rfl rfl) rfl rfl rfl ?_
  refine vp rfl rfl rfl rfl ?_
  refine nnx ?_
  refine RunC.seq ?_
  refine csr ?_
  rw [← f1]
  refine lv (Val.fieldAddr rfl fld_25_2) ?_
  refine lv (Val.load_one rfl (.tail _ (.tail _ (.tail _ (.head _)))) ty_23 rfl) ?_
  refine lv (Val.len_sl rfl sl_23) ?_
  refine RunC.loopK (t.ways.l.length) (fun k q => (56, .int .i64 (k : Int)) :: (9, .int .i64 (len2 (len1 t.pl c.pl r.pl p.pl) (t.pl.ways.take k))) :: q) (fun _ => _) (fun _ => []) (fun _ => True) trivial rfl (Sub.consE (t := 56) rfl rfl (Sub.consE (t := 9) rfl (by rfl) (Sub.cons (t := 4) rfl (Sub.cons (t := 5) rfl (Sub.cons (t := 6) rfl (Sub.cons (t := 7) rfl (Sub.cons (t := 54) rfl (Sub.cons (t := 55) rfl (Sub.nil _))))))))) (.cons .here rfl (.cons .here rfl (.cons .here rfl (.cons .here rfl .nil)))) ?_
  intro k kN kI
  clear kI
  refine st ?_
  refine cn rfl ?_ ?_
  ·intro c0'
   have hk : k < t.ways.l.length := by omega
   obtain ⟨x, hx⟩ : ∃ x, t.ways.l[k] = x := ⟨_, rfl⟩
   refine st ?_
   refine lv (Val.indexAddr_slp rfl rfl sl_23 (by omega) (by omega) (Sl.ptrM hT.ways hk)) ?_
   refine lv (Val.load_gen rfl (fun w hm => Sl.loadM1 hT.ways (by decide) hm (by simp) ty_22 hk (v := x.v) (by simp [SA.cell, hx]))) ?_
   refine lv (Val.len_sl rfl sl_22) ?_
   refine lv (Val.max rfl rfl) ?_
   refine lv (Val.add rfl rfl (IntWalk.i64_in _ ⟨by omega, by omega⟩)) ?_
   exact RunE.round (by omega) trivial rfl (Sub.consE (t := 56) rfl rfl (Sub.consE (t := 9) rfl (by rw [len2_s (x := x.l) (by rw [e1]; exact hk) (by simp [TrA.pl, hx])]) (Sub.cons (t := 4) rfl (Sub.cons (t := 5) rfl (Sub.cons (t := 6) rfl (Sub.cons (t := 7) rfl (Sub.cons (t := 54) rfl (Sub.cons (t := 55) rfl (Sub.nil _))))))))) (.cons .here rfl (.cons .here rfl (.cons .here rfl (.cons .here rfl .nil))))
  intro c0'
  obtain rfl : k = t.ways.l.length := by omega
  have g1 : len2 (len1 t.pl c.pl r.pl p.pl) (t.pl.ways.take t.ways.l.length) = len2 (len1 t.pl c.pl r.pl p.pl) t.pl.ways := by rw [← e1, List.take_length]
  rw [g1]
  refine RunC.exit ?_
  refine RunE.pass_exit ?_
  refine RunE.pass_exit ?_
  refine RunE.block_here ?_
  refine st ?_
  refine lv (Val.fieldAddr rfl fld_35_2) ?_
  refine lv (Val.load_one rfl (.tail _ (.head _)) ty_32 rfl) ?_
  refine lv (Val.len_sl rfl sl_32) ?_
  refine RunC.loopK (r.shares.l.length) (fun k q => (68, .int .i64 (k : Int)) :: (9, .int .i64 (len2 (len2 (len1 t.pl c.pl r.pl p.pl) t.pl.ways) (r.pl.shares.take k))) :: q) (fun _ => _) (fun _ => []) (fun _ => True) trivial rfl (Sub.consE (t := 68) rfl rfl (Sub.consE (t := 9) rfl (by rfl) (Sub.cons (t := 4) rfl (Sub.cons (t := 5) rfl (Sub.cons (t := 6) rfl (Sub.cons (t := 7) rfl (Sub.cons (t := 66) rfl (Sub.cons (t := 67) rfl (Sub.nil _))))))))) (.cons .here rfl (.cons .here rfl (.cons .here rfl (.cons .here rfl .nil)))) ?_
  intro k kN kI
  clear kI
  refine st ?_
  refine cn rfl ?_ ?_
  ·intro c1'
   have hk : k < r.shares.l.length := by omega
   obtain ⟨x, hx⟩ : ∃ x, r.shares.l[k] = x := ⟨_, rfl⟩
   refine st ?_
   refine lv (Val.indexAddr_slp rfl rfl sl_32 (by omega) (by omega) (Sl.ptrM hR.shares hk)) ?_
   refine lv (Val.load_gen rfl (fun w hm => Sl.loadM1 hR.shares (by decide) hm (by simp) ty_27 hk (v := x.v) (by simp [SA.cell, hx]))) ?_
   refine lv (Val.len_sl rfl sl_27) ?_
   refine lv (Val.max rfl rfl) ?_
   refine lv (Val.add rfl rfl (IntWalk.i64_in _ ⟨by omega, by omega⟩)) ?_
   exact RunE.round (by omega) trivial rfl (Sub.consE (t := 68) rfl rfl (Sub.consE (t := 9) rfl (by rw [len2_s (x := x.l) (by rw [e2]; exact hk) (by simp [RyA.pl, hx])]) (Sub.cons (t := 4) rfl (Sub.cons (t := 5) rfl (Sub.cons (t := 6) rfl (Sub.cons (t := 7) rfl (Sub.cons (t := 66) rfl (Sub.cons (t := 67) rfl (Sub.nil _))))))))) (.cons .here rfl (.cons .here rfl (.cons .here rfl (.cons .here rfl .nil))))
  intro c1'
  obtain rfl : k = r.shares.l.length := by omega
  refine RunC.exit ?_
  refine RunE.pass_exit ?_
  refine RunE.pass_exit ?_
  refine RunE.block_here ?_
  refine st ?_
  refine RunC.ret ?_
  exact RunE.retP (.r1 rfl (.tmp rfl)) (by unfold greatX lenX; rw [show List.take r.shares.l.length r.pl.shares = r.pl.shares by rw [← e2, List.take_length]])
theorem lspan_calls (a b : Int) (W : World) : Calls Tryz.prog 85 #[.int .i64 a, .int .i64 b] W (Pure (.agg #[.int .i64 a, .int .i64 b]) W) := by
  refine calls_start Tryz.func85 rfl rfl ?_
  refine st ?_
  refine RunL.new (New.alloc zero_38) rfl rfl rfl (fun b4 => ?_)
  refine st ?_
  refine lv (Val.build (parts := [(0, .tmp 5), (1, .tmp 6)]) rfl zero_38 places_38 rfl) ?_
  refine RunL.sto (Sto.store rfl rfl .here ty_38 rfl rfl) rfl rfl ?_
  refine st ?_
  refine RunC.ret ?_
  exact RunE.retP (.r1 rfl (.agg rfl (.head _) ty_38 rfl)) (by first | rfl | simp)
end Go.Proofs.YtleamcmljcdapaaGreatDoor
namespace Go.Proofs.YtleamcmljcdapaaGreatDoor
open Go Go.Eng
theorem ent_85 : Enters Tryz.prog 85 := enters_of Tryz.func85 (by kernel_rfl) rfl
theorem places_25 : placesB Tryz.prog 25 = some [(0, 1), (1, 1), (2, 1), (3, 1), (4, 1)] := by kernel_rfl
theorem places_30 : placesB Tryz.prog 30 = some [(0, 1), (1, 1), (2, 1), (3, 1)] := by kernel_rfl
theorem places_35 : placesB Tryz.prog 35 = some [(0, 1), (1, 1), (2, 1), (3, 1), (4, 1)] := by kernel_rfl
end Go.Proofs.YtleamcmljcdapaaGreatDoor
namespace Go.Proofs.YtleamcmljcdapaaGreatDoor
open Go Go.Eng Go.Bk Go.RowKit

abbrev cO (cs : List Value) (T : TypeId) : Obj := .cells cs.toArray T (0, 0)
theorem cO_ok {α : Type} {w : World} {b c : Nat} {T : TypeId} {f : α → List Value} {sz : Nat} (l : List α) (h : w.heap[b]? = some (cO (l.map f).flatten T)) (hf : ∀ x, (f x).length = sz) : (⟨l, some ⟨b, 0, none⟩, b, 0, c⟩ : SA α).ok f sz w :=
  Sl.rowsR (xs := l.map f) (t := []) (by rw [List.append_nil]; exact h) (fun x hx => by obtain ⟨y, _, rfl⟩ := List.mem_map.1 hx; exact hf y)
/-- A slice that is just a block. -/
abbrev atB {α : Type} (l : List α) (b : Nat) : SA α := ⟨l, some ⟨b, 0, none⟩, b, 0, l.length⟩
structure ExT where
  a : Nat
  b : Nat
  c : Nat
  d : Nat
  e : Nat
  f : Nat
  g : Nat
def exTR (z : ExT) : List (SA Sp) := [atB [⟨0, 0⟩, ⟨15, 20⟩, ⟨45, 50⟩] z.b, atB [⟨15, 20⟩, ⟨0, 0⟩, ⟨30, 35⟩] z.c, atB [⟨45, 50⟩, ⟨30, 35⟩, ⟨0, 0⟩] z.d]
def exTA (z : ExT) : TrA := ⟨360, atB exT.fr z.a, atB (exTR z) z.e, atB exT.stay z.f, atB exT.light z.g⟩
theorem exTA_pl (z : ExT) : (exTA z).pl = exT := rfl
def exTB (z : ExT) : Blks := [(z.a, cO (exT.fr.map Sp.cells).flatten 38), (z.b, cO (([⟨0, 0⟩, ⟨15, 20⟩, ⟨45, 50⟩] : List Sp).map Sp.cells).flatten 38), (z.c, cO (([⟨15, 20⟩, ⟨0, 0⟩, ⟨30, 35⟩] : List Sp).map Sp.cells).flatten 38), (z.d, cO (([⟨45, 50⟩, ⟨30, 35⟩, ⟨0, 0⟩] : List Sp).map Sp.cells).flatten 38), (z.e, cO ((exTR z).map SA.cell).flatten 22), (z.f, cO (exT.stay.map Sp.cells).flatten 38), (z.g, cO (exT.light.map Sp.cells).flatten 38)]
theorem exTA_ok {z : ExT} {w W : World} {tl : Blks} (hm : Mem W [] (exTB z ++ tl) w) : TrOk w (exTA z) := by
  have h : ∀ b o, (b, o) ∈ exTB z → w.heap[b]? = some o := fun b o hb => hm.at (List.mem_append_right _ (List.mem_append_left _ hb))
  refine ⟨cO_ok _ (h _ _ (.head _)) (fun _ => rfl), cO_ok _ (h _ _ (.tail _ (.tail _ (.tail _ (.tail _ (.head _)))))) (fun _ => rfl), fun x hx => ?_, cO_ok _ (h _ _ (.tail _ (.tail _ (.tail _ (.tail _ (.tail _ (.head _))))))) (fun _ => rfl), cO_ok _ (h _ _ (.tail _ (.tail _ (.tail _ (.tail _ (.tail _ (.tail _ (.head _)))))))) (fun _ => rfl), fun e => by cases e⟩
  simp only [exTA, exTR, List.mem_cons, List.not_mem_nil, or_false] at hx
  rcases hx with rfl | rfl | rfl
  · exact cO_ok _ (h _ _ (.tail _ (.head _))) (fun _ => rfl)
  · exact cO_ok _ (h _ _ (.tail _ (.tail _ (.head _)))) (fun _ => rfl)
  · exact cO_ok _ (h _ _ (.tail _ (.tail _ (.tail _ (.head _))))) (fun _ => rfl)
theorem exTA_sm (z : ExT) : TrSm (exTA z) := ⟨by show (3 : Nat) ≤ _; decide, by show (3 : Nat) ≤ _; decide, fun x hx => by
  simp only [exTA, exTR, List.mem_cons, List.not_mem_nil, or_false] at hx
  rcases hx with rfl | rfl | rfl <;> (show (3 : Nat) ≤ _; decide), by show (3 : Nat) ≤ _; decide, by show (3 : Nat) ≤ _; decide⟩
theorem tour_calls (W : World) : Calls Tryz.prog 37 #[] W (News (fun z : ExT => (exTA z).v) exTB W) := by
  refine calls_start Tryz.func37 rfl rfl ?_
  refine st ?_
  refine RunL.new (New.alloc zero_25) rfl rfl rfl (fun b0 => ?_)
  refine st ?_
  iterate 4 refine RunL.callP (isCall_func rfl ent_85) rfl rfl rfl (fun w hm => lspan_calls _ _ w) ?_
  refine RunL.new (New.alloc zero_38) rfl rfl rfl (fun b1 => ?_)
  refine RunL.new (New.alloc zero_38) rfl rfl rfl (fun b2 => ?_)
  refine RunL.new (New.alloc zero_38) rfl rfl rfl (fun b3 => ?_)
  refine RunL.new (New.alloc zero_38) rfl rfl rfl (fun b4 => ?_)
  refine RunL.sto (Sto.store rfl rfl (.there (.there (.there .here))) ty_38 rfl rfl) rfl rfl ?_
  refine RunL.sto (Sto.store rfl rfl (.there (.there .here)) ty_38 rfl rfl) rfl rfl ?_
  refine RunL.sto (Sto.store rfl rfl (.there .here) ty_38 rfl rfl) rfl rfl ?_
  refine RunL.sto (Sto.store rfl rfl .here ty_38 rfl rfl) rfl rfl ?_
  refine st ?_
  refine RunC.freeN (O := Nat) [⟨9, [], [], fun _ => .agg #[.int .i64 30, .int .i64 40], fun _ => []⟩, ⟨10, [0], [], fun _ => .agg #[.int .i64 20, .int .i64 20], fun _ => []⟩, ⟨11, [0, 1], [], fun _ => .agg #[.int .i64 60, .int .i64 70], fun _ => []⟩, ⟨12, [0, 1, 2], [3], fun l => match l with | [b12] => .slice (some ⟨b12, 0, none⟩) 3 3 | _ => undef, fun l => match l with | [b12] => [(b12, .cells [.int .i64 30, .int .i64 40, .int .i64 20, .int .i64 20, .int .i64 60, .int .i64 70].toArray 38 (0, 0))] | _ => []⟩, ⟨13, [], [], fun _ => .agg #[.int .i64 0, .int .i64 0], fun _ => []⟩, ⟨14, [], [], fun _ => .agg #[.int .i64 15, .int .i64 20], fun _ => []⟩, ⟨15, [], [], fun _ => .agg #[.int .i64 45, .int .i64 50], fun _ => []⟩, ⟨16, [4, 5, 6], [7], fun l => match l with | [b16] => .slice (some ⟨b16, 0, none⟩) 3 3 | _ => undef, fun l => match l with | [b16] => [(b16, .cells [.int .i64 0, .int .i64 0, .int .i64 15, .int .i64 20, .int .i64 45, .int .i64 50].toArray 38 (0, 0))] | _ => []⟩, ⟨17, [], [], fun _ => .agg #[.int .i64 15, .int .i64 20], fun _ => []⟩, ⟨18, [], [], fun _ => .agg #[.int .i64 0, .int .i64 0], fun _ => []⟩, ⟨19, [], [], fun _ => .agg #[.int .i64 30, .int .i64 35], fun _ => []⟩, ⟨20, [8, 9, 10], [11], fun l => match l with | [b20] => .slice (some ⟨b20, 0, none⟩) 3 3 | _ => undef, fun l => match l with | [b20] => [(b20, .cells [.int .i64 15, .int .i64 20, .int .i64 0, .int .i64 0, .int .i64 30, .int .i64 35].toArray 38 (0, 0))] | _ => []⟩, ⟨21, [], [], fun _ => .agg #[.int .i64 45, .int .i64 50], fun _ => []⟩, ⟨22, [], [], fun _ => .agg #[.int .i64 30, .int .i64 35], fun _ => []⟩, ⟨23, [], [], fun _ => .agg #[.int .i64 0, .int .i64 0], fun _ => []⟩, ⟨24, [12, 13, 14], [15], fun l => match l with | [b24] => .slice (some ⟨b24, 0, none⟩) 3 3 | _ => undef, fun l => match l with | [b24] => [(b24, .cells [.int .i64 45, .int .i64 50, .int .i64 30, .int .i64 35, .int .i64 0, .int .i64 0].toArray 38 (0, 0))] | _ => []⟩, ⟨25, [4, 5, 6, 7, 8, 9, 10, 11, 12, 13, 14, 15], [7, 11, 15, 16], fun l => match l with | [b16, b20, b24, b25] => .slice (some ⟨b25, 0, none⟩) 3 3 | _ => undef, fun l => match l with | [b16, b20, b24, b25] => [(b25, .cells [.slice (some ⟨b16, 0, none⟩) 3 3, .slice (some ⟨b20, 0, none⟩) 3 3, .slice (some ⟨b24, 0, none⟩) 3 3].toArray 22 (0, 0))] | _ => []⟩, ⟨26, [0, 1, 2], [], fun _ => .agg #[.int .i64 10, .int .i64 15], fun _ => []⟩, ⟨27, [0, 1, 2, 17], [], fun _ => .agg #[.int .i64 20, .int .i64 20], fun _ => []⟩, ⟨28, [0, 1, 2, 17, 18], [], fun _ => .agg #[.int .i64 5, .int .i64 10], fun _ => []⟩, ⟨29, [0, 1, 2, 17, 18, 19], [20], fun l => match l with | [b29] => .slice (some ⟨b29, 0, none⟩) 3 3 | _ => undef, fun l => match l with | [b29] => [(b29, .cells [.int .i64 10, .int .i64 15, .int .i64 20, .int .i64 20, .int .i64 5, .int .i64 10].toArray 38 (0, 0))] | _ => []⟩, ⟨30, [0, 1, 2, 17, 18, 19], [], fun _ => .agg #[.int .i64 420, .int .i64 480], fun _ => []⟩, ⟨31, [0, 1, 2, 17, 18, 19, 21], [], fun _ => .agg #[.int .i64 380, .int .i64 600], fun _ => []⟩, ⟨32, [0, 1, 2, 17, 18, 19, 21, 22], [], fun _ => .agg #[.int .i64 500, .int .i64 540], fun _ => []⟩, ⟨33, [0, 1, 2, 17, 18, 19, 21, 22, 23], [24], fun l => match l with | [b33] => .slice (some ⟨b33, 0, none⟩) 3 3 | _ => undef, fun l => match l with | [b33] => [(b33, .cells [.int .i64 420, .int .i64 480, .int .i64 380, .int .i64 600, .int .i64 500, .int .i64 540].toArray 38 (0, 0))] | _ => []⟩] 27 25 2 fol_ (by kernel_rfl) (by rfl) rfl rfl rfl ?_ ?_
  ·refine AllOk.cons (fun x => ?_) ?_
   ·show OpOk _ _ _ _ _ (_) (_) 0 9 (fun _ => .agg #[.int .i64 30, .int .i64 40]) (fun _ => [])
    exact OpOk.callP rfl (isCall_func rfl ent_85) rfl rfl (fun w hm => lspan_calls _ _ w)
   refine AllOk.cons (fun x => ?_) ?_
   ·show OpOk _ _ _ _ _ ((9, .agg #[.int .i64 30, .int .i64 40]) :: _) (_) 1 10 (fun _ => .agg #[.int .i64 20, .int .i64 20]) (fun _ => [])
    exact OpOk.callP rfl (isCall_func rfl ent_85) rfl rfl (fun w hm => lspan_calls _ _ w)
   refine AllOk.cons (fun x => ?_) ?_
   ·show OpOk _ _ _ _ _ ((9, .agg #[.int .i64 30, .int .i64 40]) :: (10, .agg #[.int .i64 20, .int .i64 20]) :: _) (_) 2 11 (fun _ => .agg #[.int .i64 60, .int .i64 70]) (fun _ => [])
    exact OpOk.callP rfl (isCall_func rfl ent_85) rfl rfl (fun w hm => lspan_calls _ _ w)
   refine AllOk.cons (fun x => ?_) ?_
   ·show OpOk _ _ _ _ _ ((9, .agg #[.int .i64 30, .int .i64 40]) :: (10, .agg #[.int .i64 20, .int .i64 20]) :: (11, .agg #[.int .i64 60, .int .i64 70]) :: _) (_) 3 12 (fun b12 => .slice (some ⟨b12, 0, none⟩) 3 3) (fun b12 => [(b12, .cells [.int .i64 30, .int .i64 40, .int .i64 20, .int .i64 20, .int .i64 60, .int .i64 70].toArray 38 (0, 0))])
    exact OpOk.new rfl (New.buildSlice (parts := [(0, .tmp 9), (1, .tmp 10), (2, .tmp 11)]) rfl sl_22 zero_38 rfl rfl rfl rfl) rfl rfl
   refine AllOk.cons (fun x => ?_) ?_
   ·show OpOk _ _ _ _ _ (_) (_) 4 13 (fun _ => .agg #[.int .i64 0, .int .i64 0]) (fun _ => [])
    exact OpOk.val rfl (Val.load_agg rfl (.head _) ty_38 rfl) rfl rfl
   refine AllOk.cons (fun x => ?_) ?_
   ·show OpOk _ _ _ _ _ (_) (_) 5 14 (fun _ => .agg #[.int .i64 15, .int .i64 20]) (fun _ => [])
    exact OpOk.val rfl (Val.load_agg rfl (.tail _ (.tail _ (.tail _ (.head _)))) ty_38 rfl) rfl rfl
   refine AllOk.cons (fun x => ?_) ?_
   ·show OpOk _ _ _ _ _ (_) (_) 6 15 (fun _ => .agg #[.int .i64 45, .int .i64 50]) (fun _ => [])
    exact OpOk.val rfl (Val.load_agg rfl (.tail _ (.tail _ (.head _))) ty_38 rfl) rfl rfl
   refine AllOk.cons (fun x => ?_) ?_
   ·show OpOk _ _ _ _ _ ((13, .agg #[.int .i64 0, .int .i64 0]) :: (14, .agg #[.int .i64 15, .int .i64 20]) :: (15, .agg #[.int .i64 45, .int .i64 50]) :: _) (_) 7 16 (fun b16 => .slice (some ⟨b16, 0, none⟩) 3 3) (fun b16 => [(b16, .cells [.int .i64 0, .int .i64 0, .int .i64 15, .int .i64 20, .int .i64 45, .int .i64 50].toArray 38 (0, 0))])
    exact OpOk.new rfl (New.buildSlice (parts := [(0, .tmp 13), (1, .tmp 14), (2, .tmp 15)]) rfl sl_22 zero_38 rfl rfl rfl rfl) rfl rfl
   refine AllOk.cons (fun x => ?_) ?_
   ·show OpOk _ _ _ _ _ (_) (_) 8 17 (fun _ => .agg #[.int .i64 15, .int .i64 20]) (fun _ => [])
    exact OpOk.val rfl (Val.load_agg rfl (.tail _ (.tail _ (.tail _ (.head _)))) ty_38 rfl) rfl rfl
   refine AllOk.cons (fun x => ?_) ?_
   ·show OpOk _ _ _ _ _ (_) (_) 9 18 (fun _ => .agg #[.int .i64 0, .int .i64 0]) (fun _ => [])
    exact OpOk.val rfl (Val.load_agg rfl (.head _) ty_38 rfl) rfl rfl
   refine AllOk.cons (fun x => ?_) ?_
   ·show OpOk _ _ _ _ _ (_) (_) 10 19 (fun _ => .agg #[.int .i64 30, .int .i64 35]) (fun _ => [])
    exact OpOk.val rfl (Val.load_agg rfl (.tail _ (.head _)) ty_38 rfl) rfl rfl
   refine AllOk.cons (fun x => ?_) ?_
   ·show OpOk _ _ _ _ _ ((17, .agg #[.int .i64 15, .int .i64 20]) :: (18, .agg #[.int .i64 0, .int .i64 0]) :: (19, .agg #[.int .i64 30, .int .i64 35]) :: _) (_) 11 20 (fun b20 => .slice (some ⟨b20, 0, none⟩) 3 3) (fun b20 => [(b20, .cells [.int .i64 15, .int .i64 20, .int .i64 0, .int .i64 0, .int .i64 30, .int .i64 35].toArray 38 (0, 0))])
    exact OpOk.new rfl (New.buildSlice (parts := [(0, .tmp 17), (1, .tmp 18), (2, .tmp 19)]) rfl sl_22 zero_38 rfl rfl rfl rfl) rfl rfl
   refine AllOk.cons (fun x => ?_) ?_
   ·show OpOk _ _ _ _ _ (_) (_) 12 21 (fun _ => .agg #[.int .i64 45, .int .i64 50]) (fun _ => [])
    exact OpOk.val rfl (Val.load_agg rfl (.tail _ (.tail _ (.head _))) ty_38 rfl) rfl rfl
   refine AllOk.cons (fun x => ?_) ?_
   ·show OpOk _ _ _ _ _ (_) (_) 13 22 (fun _ => .agg #[.int .i64 30, .int .i64 35]) (fun _ => [])
    exact OpOk.val rfl (Val.load_agg rfl (.tail _ (.head _)) ty_38 rfl) rfl rfl
   refine AllOk.cons (fun x => ?_) ?_
   ·show OpOk _ _ _ _ _ (_) (_) 14 23 (fun _ => .agg #[.int .i64 0, .int .i64 0]) (fun _ => [])
    exact OpOk.val rfl (Val.load_agg rfl (.head _) ty_38 rfl) rfl rfl
   refine AllOk.cons (fun x => ?_) ?_
   ·show OpOk _ _ _ _ _ ((21, .agg #[.int .i64 45, .int .i64 50]) :: (22, .agg #[.int .i64 30, .int .i64 35]) :: (23, .agg #[.int .i64 0, .int .i64 0]) :: _) (_) 15 24 (fun b24 => .slice (some ⟨b24, 0, none⟩) 3 3) (fun b24 => [(b24, .cells [.int .i64 45, .int .i64 50, .int .i64 30, .int .i64 35, .int .i64 0, .int .i64 0].toArray 38 (0, 0))])
    exact OpOk.new rfl (New.buildSlice (parts := [(0, .tmp 21), (1, .tmp 22), (2, .tmp 23)]) rfl sl_22 zero_38 rfl rfl rfl rfl) rfl rfl
   refine AllOk.cons (fun x => ?_) ?_
   ·show OpOk _ _ _ _ _ ((13, .agg #[.int .i64 0, .int .i64 0]) :: (14, .agg #[.int .i64 15, .int .i64 20]) :: (15, .agg #[.int .i64 45, .int .i64 50]) :: (16, .slice (some ⟨(x 7), 0, none⟩) 3 3) :: (17, .agg #[.int .i64 15, .int .i64 20]) :: (18, .agg #[.int .i64 0, .int .i64 0]) :: (19, .agg #[.int .i64 30, .int .i64 35]) :: (20, .slice (some ⟨(x 11), 0, none⟩) 3 3) :: (21, .agg #[.int .i64 45, .int .i64 50]) :: (22, .agg #[.int .i64 30, .int .i64 35]) :: (23, .agg #[.int .i64 0, .int .i64 0]) :: (24, .slice (some ⟨(x 15), 0, none⟩) 3 3) :: _) (((x 7), .cells [.int .i64 0, .int .i64 0, .int .i64 15, .int .i64 20, .int .i64 45, .int .i64 50].toArray 38 (0, 0)) :: ((x 11), .cells [.int .i64 15, .int .i64 20, .int .i64 0, .int .i64 0, .int .i64 30, .int .i64 35].toArray 38 (0, 0)) :: ((x 15), .cells [.int .i64 45, .int .i64 50, .int .i64 30, .int .i64 35, .int .i64 0, .int .i64 0].toArray 38 (0, 0)) :: _) 16 25 (fun b25 => .slice (some ⟨b25, 0, none⟩) 3 3) (fun b25 => [(b25, .cells [.slice (some ⟨(x 7), 0, none⟩) 3 3, .slice (some ⟨(x 11), 0, none⟩) 3 3, .slice (some ⟨(x 15), 0, none⟩) 3 3].toArray 22 (0, 0))])
    generalize x 7 = b16
    generalize x 11 = b20
    generalize x 15 = b24
    exact OpOk.new rfl (New.buildSlice (parts := [(0, .tmp 16), (1, .tmp 20), (2, .tmp 24)]) rfl sl_23 zero_22 rfl rfl rfl rfl) rfl rfl
   refine AllOk.cons (fun x => ?_) ?_
   ·show OpOk _ _ _ _ _ ((9, .agg #[.int .i64 30, .int .i64 40]) :: (10, .agg #[.int .i64 20, .int .i64 20]) :: (11, .agg #[.int .i64 60, .int .i64 70]) :: _) (_) 17 26 (fun _ => .agg #[.int .i64 10, .int .i64 15]) (fun _ => [])
    exact OpOk.callP rfl (isCall_func rfl ent_85) rfl rfl (fun w hm => lspan_calls _ _ w)
   refine AllOk.cons (fun x => ?_) ?_
   ·show OpOk _ _ _ _ _ ((9, .agg #[.int .i64 30, .int .i64 40]) :: (10, .agg #[.int .i64 20, .int .i64 20]) :: (11, .agg #[.int .i64 60, .int .i64 70]) :: (26, .agg #[.int .i64 10, .int .i64 15]) :: _) (_) 18 27 (fun _ => .agg #[.int .i64 20, .int .i64 20]) (fun _ => [])
    exact OpOk.callP rfl (isCall_func rfl ent_85) rfl rfl (fun w hm => lspan_calls _ _ w)
   refine AllOk.cons (fun x => ?_) ?_
   ·show OpOk _ _ _ _ _ ((9, .agg #[.int .i64 30, .int .i64 40]) :: (10, .agg #[.int .i64 20, .int .i64 20]) :: (11, .agg #[.int .i64 60, .int .i64 70]) :: (26, .agg #[.int .i64 10, .int .i64 15]) :: (27, .agg #[.int .i64 20, .int .i64 20]) :: _) (_) 19 28 (fun _ => .agg #[.int .i64 5, .int .i64 10]) (fun _ => [])
    exact OpOk.callP rfl (isCall_func rfl ent_85) rfl rfl (fun w hm => lspan_calls _ _ w)
   refine AllOk.cons (fun x => ?_) ?_
   ·show OpOk _ _ _ _ _ ((9, .agg #[.int .i64 30, .int .i64 40]) :: (10, .agg #[.int .i64 20, .int .i64 20]) :: (11, .agg #[.int .i64 60, .int .i64 70]) :: (26, .agg #[.int .i64 10, .int .i64 15]) :: (27, .agg #[.int .i64 20, .int .i64 20]) :: (28, .agg #[.int .i64 5, .int .i64 10]) :: _) (_) 20 29 (fun b29 => .slice (some ⟨b29, 0, none⟩) 3 3) (fun b29 => [(b29, .cells [.int .i64 10, .int .i64 15, .int .i64 20, .int .i64 20, .int .i64 5, .int .i64 10].toArray 38 (0, 0))])
    exact OpOk.new rfl (New.buildSlice (parts := [(0, .tmp 26), (1, .tmp 27), (2, .tmp 28)]) rfl sl_22 zero_38 rfl rfl rfl rfl) rfl rfl
   refine AllOk.cons (fun x => ?_) ?_
   ·show OpOk _ _ _ _ _ ((9, .agg #[.int .i64 30, .int .i64 40]) :: (10, .agg #[.int .i64 20, .int .i64 20]) :: (11, .agg #[.int .i64 60, .int .i64 70]) :: (26, .agg #[.int .i64 10, .int .i64 15]) :: (27, .agg #[.int .i64 20, .int .i64 20]) :: (28, .agg #[.int .i64 5, .int .i64 10]) :: _) (_) 21 30 (fun _ => .agg #[.int .i64 420, .int .i64 480]) (fun _ => [])
    exact OpOk.callP rfl (isCall_func rfl ent_85) rfl rfl (fun w hm => lspan_calls _ _ w)
   refine AllOk.cons (fun x => ?_) ?_
   ·show OpOk _ _ _ _ _ ((9, .agg #[.int .i64 30, .int .i64 40]) :: (10, .agg #[.int .i64 20, .int .i64 20]) :: (11, .agg #[.int .i64 60, .int .i64 70]) :: (26, .agg #[.int .i64 10, .int .i64 15]) :: (27, .agg #[.int .i64 20, .int .i64 20]) :: (28, .agg #[.int .i64 5, .int .i64 10]) :: (30, .agg #[.int .i64 420, .int .i64 480]) :: _) (_) 22 31 (fun _ => .agg #[.int .i64 380, .int .i64 600]) (fun _ => [])
    exact OpOk.callP rfl (isCall_func rfl ent_85) rfl rfl (fun w hm => lspan_calls _ _ w)
   refine AllOk.cons (fun x => ?_) ?_
   ·show OpOk _ _ _ _ _ ((9, .agg #[.int .i64 30, .int .i64 40]) :: (10, .agg #[.int .i64 20, .int .i64 20]) :: (11, .agg #[.int .i64 60, .int .i64 70]) :: (26, .agg #[.int .i64 10, .int .i64 15]) :: (27, .agg #[.int .i64 20, .int .i64 20]) :: (28, .agg #[.int .i64 5, .int .i64 10]) :: (30, .agg #[.int .i64 420, .int .i64 480]) :: (31, .agg #[.int .i64 380, .int .i64 600]) :: _) (_) 23 32 (fun _ => .agg #[.int .i64 500, .int .i64 540]) (fun _ => [])
    exact OpOk.callP rfl (isCall_func rfl ent_85) rfl rfl (fun w hm => lspan_calls _ _ w)
   refine AllOk.cons (fun x => ?_) ?_
   ·show OpOk _ _ _ _ _ ((9, .agg #[.int .i64 30, .int .i64 40]) :: (10, .agg #[.int .i64 20, .int .i64 20]) :: (11, .agg #[.int .i64 60, .int .i64 70]) :: (26, .agg #[.int .i64 10, .int .i64 15]) :: (27, .agg #[.int .i64 20, .int .i64 20]) :: (28, .agg #[.int .i64 5, .int .i64 10]) :: (30, .agg #[.int .i64 420, .int .i64 480]) :: (31, .agg #[.int .i64 380, .int .i64 600]) :: (32, .agg #[.int .i64 500, .int .i64 540]) :: _) (_) 24 33 (fun b33 => .slice (some ⟨b33, 0, none⟩) 3 3) (fun b33 => [(b33, .cells [.int .i64 420, .int .i64 480, .int .i64 380, .int .i64 600, .int .i64 500, .int .i64 540].toArray 38 (0, 0))])
    exact OpOk.new rfl (New.buildSlice (parts := [(0, .tmp 30), (1, .tmp 31), (2, .tmp 32)]) rfl sl_22 zero_38 rfl rfl rfl rfl) rfl rfl
   exact AllOk.nil
  intro x
  show RunB _ _ _ _ 2 (listedK 25 27) ((9, .agg #[.int .i64 30, .int .i64 40]) :: (10, .agg #[.int .i64 20, .int .i64 20]) :: (11, .agg #[.int .i64 60, .int .i64 70]) :: (12, .slice (some ⟨(x 3), 0, none⟩) 3 3) :: (13, .agg #[.int .i64 0, .int .i64 0]) :: (14, .agg #[.int .i64 15, .int .i64 20]) :: (15, .agg #[.int .i64 45, .int .i64 50]) :: (16, .slice (some ⟨(x 7), 0, none⟩) 3 3) :: (17, .agg #[.int .i64 15, .int .i64 20]) :: (18, .agg #[.int .i64 0, .int .i64 0]) :: (19, .agg #[.int .i64 30, .int .i64 35]) :: (20, .slice (some ⟨(x 11), 0, none⟩) 3 3) :: (21, .agg #[.int .i64 45, .int .i64 50]) :: (22, .agg #[.int .i64 30, .int .i64 35]) :: (23, .agg #[.int .i64 0, .int .i64 0]) :: (24, .slice (some ⟨(x 15), 0, none⟩) 3 3) :: (25, .slice (some ⟨(x 16), 0, none⟩) 3 3) :: (26, .agg #[.int .i64 10, .int .i64 15]) :: (27, .agg #[.int .i64 20, .int .i64 20]) :: (28, .agg #[.int .i64 5, .int .i64 10]) :: (29, .slice (some ⟨(x 20), 0, none⟩) 3 3) :: (30, .agg #[.int .i64 420, .int .i64 480]) :: (31, .agg #[.int .i64 380, .int .i64 600]) :: (32, .agg #[.int .i64 500, .int .i64 540]) :: (33, .slice (some ⟨(x 24), 0, none⟩) 3 3) :: _) _ _ _ (((x 3), .cells [.int .i64 30, .int .i64 40, .int .i64 20, .int .i64 20, .int .i64 60, .int .i64 70].toArray 38 (0, 0)) :: ((x 7), .cells [.int .i64 0, .int .i64 0, .int .i64 15, .int .i64 20, .int .i64 45, .int .i64 50].toArray 38 (0, 0)) :: ((x 11), .cells [.int .i64 15, .int .i64 20, .int .i64 0, .int .i64 0, .int .i64 30, .int .i64 35].toArray 38 (0, 0)) :: ((x 15), .cells [.int .i64 45, .int .i64 50, .int .i64 30, .int .i64 35, .int .i64 0, .int .i64 0].toArray 38 (0, 0)) :: ((x 16), .cells [.slice (some ⟨(x 7), 0, none⟩) 3 3, .slice (some ⟨(x 11), 0, none⟩) 3 3, .slice (some ⟨(x 15), 0, none⟩) 3 3].toArray 22 (0, 0)) :: ((x 20), .cells [.int .i64 10, .int .i64 15, .int .i64 20, .int .i64 20, .int .i64 5, .int .i64 10].toArray 38 (0, 0)) :: ((x 24), .cells [.int .i64 420, .int .i64 480, .int .i64 380, .int .i64 600, .int .i64 500, .int .i64 540].toArray 38 (0, 0)) :: (b4, _) :: (b3, _) :: (b2, _) :: (b1, _) :: (b0, _) :: _)
  generalize x 3 = b12
  generalize x 7 = b16
  generalize x 11 = b20
  generalize x 15 = b24
  generalize x 16 = b25
  generalize x 20 = b29
  generalize x 24 = b33
  refine RunB.one (i := 25) (by kernel_rfl) ?_
  refine RunI.val rfl (Val.build (parts := [(0, .const (.int .i64 360)), (1, .tmp 12), (2, .tmp 25), (3, .tmp 29), (4, .tmp 33)]) rfl zero_25 places_25 rfl) rfl rfl rfl (RunK.toB ?_)
  refine RunB.one (i := 26) (by kernel_rfl) ?_
  refine RunI.sto rfl (Sto.store rfl rfl (.there (.there (.there (.there (.there (.there (.there (.there (.there (.there (.there .here))))))))))) ty_25 rfl rfl) rfl rfl (RunK.toB ?_)
  refine RunB.done (by kernel_rfl) ?_
  refine st ?_
  refine RunC.ret ?_
  exact RunE.ret (chg := []) (.r1 rfl (.agg rfl (.tail _ (.tail _ (.tail _ (.tail _ (.tail _ (.tail _ (.tail _ (.tail _ (.tail _ (.tail _ (.tail _ (.head _)))))))))))) ty_25 rfl)) (fun _ hm => ⟨⟨b12, b16, b20, b24, b25, b29, b33⟩, rfl, hm.pick (.cons .here rfl (.cons .here rfl (.cons .here rfl (.cons .here rfl (.cons .here rfl (.cons .here rfl (.cons .here rfl .nil)))))))⟩)
structure ExC where
  a : Nat
  b : Nat
def exCA (z : ExC) : CbA := ⟨4, atB exC.homes z.a, 1, atB exC.loans z.b⟩
def exCB (z : ExC) : Blks := [(z.a, cO (exC.homes.map intC).flatten 3), (z.b, cO (exC.loans.map Ln.cells).flatten 98)]
theorem exCA_pl (z : ExC) : (exCA z).pl = exC := rfl
theorem exCA_ok {z : ExC} {w W : World} {tl : Blks} (hm : Mem W [] (exCB z ++ tl) w) : CbOk w (exCA z) := by
  have h : ∀ b o, (b, o) ∈ exCB z → w.heap[b]? = some o := fun b o hb => hm.at (List.mem_append_right _ (List.mem_append_left _ hb))
  exact ⟨cO_ok _ (h _ _ (.head _)) (fun _ => rfl), cO_ok _ (h _ _ (.tail _ (.head _))) (fun _ => rfl)⟩
theorem exCA_s (z : ExC) : CbS (exCA z) := ⟨by show (3 : Nat) ≤ _; decide, by show (5 : Nat) ≤ _; decide⟩
theorem cabinet_calls (W : World) : Calls Tryz.prog 38 #[] W (News (fun z : ExC => (exCA z).v) exCB W) := by
  refine calls_start Tryz.func38 rfl rfl ?_
  refine st ?_
  refine RunL.new (New.alloc zero_30) rfl rfl rfl (fun b0 => ?_)
  refine st ?_
  refine RunL.new (New.buildSlice (parts := [(0, .const (.int .i64 0)), (1, .const (.int .i64 1)), (2, .const (.int .i64 2))]) rfl sl_27 zero_3 rfl rfl rfl rfl) rfl rfl rfl (fun b1 => ?_)
  refine lv (Val.build (parts := [(1, .const (.int .i64 0)), (2, .const (.int .i64 0))]) rfl zero_98 places_98 rfl) ?_
  refine lv (Val.build (parts := [(1, .const (.int .i64 1)), (2, .const (.int .i64 1))]) rfl zero_98 places_98 rfl) ?_
  refine lv (Val.build (parts := [(0, .const (.int .i64 1)), (1, .const (.int .i64 0)), (2, .const (.int .i64 0))]) rfl zero_98 places_98 rfl) ?_
  refine lv (Val.build (parts := [(0, .const (.int .i64 1)), (1, .const (.int .i64 1)), (2, .const (.int .i64 1))]) rfl zero_98 places_98 rfl) ?_
  refine lv (Val.build (parts := [(0, .const (.int .i64 2)), (1, .const (.int .i64 0)), (3, .const (.int .i64 1))]) rfl zero_98 places_98 rfl) ?_
  refine RunL.new (New.buildSlice (parts := [(0, .tmp 2), (1, .tmp 3), (2, .tmp 4), (3, .tmp 5), (4, .tmp 6)]) rfl sl_28 zero_98 rfl rfl rfl rfl) rfl rfl rfl (fun b7 => ?_)
  refine lv (Val.build (parts := [(0, .const (.int .i64 4)), (1, .tmp 1), (2, .const (.int .i64 1)), (3, .tmp 7)]) rfl zero_30 places_30 rfl) ?_
  refine RunL.sto (Sto.store rfl rfl (.there (.there .here)) ty_30 rfl rfl) rfl rfl ?_
  refine st ?_
  refine RunC.ret ?_
  exact RunE.ret (chg := []) (.r1 rfl (.agg rfl (.tail _ (.tail _ (.head _))) ty_30 rfl)) (fun _ hm => ⟨⟨b1, b7⟩, rfl, hm.pick (.cons (.there .here) rfl (.cons .here rfl .nil))⟩)
structure ExR where
  a : Nat
  b : Nat
  c : Nat
  d : Nat
  e : Nat
  f : Nat
def exRA (z : ExR) : RyA := ⟨atB exR.terms z.a, atB exR.prices z.b, atB [atB [334, 333, 333] z.c] z.d, atB exR.reports z.e, atB exR.paid z.f⟩
def exRB (z : ExR) : Blks := [(z.a, cO (exR.terms.map Tm.cells).flatten 109), (z.b, cO (exR.prices.map intC).flatten 3), (z.c, cO (([334, 333, 333] : List Int).map intC).flatten 3), (z.d, cO (([atB [334, 333, 333] z.c] : List (SA Int)).map SA.cell).flatten 27), (z.e, cO (exR.reports.map Rp.cells).flatten 111), (z.f, cO (exR.paid.map intC).flatten 3)]
theorem exRA_pl (z : ExR) : (exRA z).pl = exR := rfl
theorem exRA_ok {z : ExR} {w W : World} {tl : Blks} (hm : Mem W [] (exRB z ++ tl) w) : RyOk w (exRA z) := by
  have h : ∀ b o, (b, o) ∈ exRB z → w.heap[b]? = some o := fun b o hb => hm.at (List.mem_append_right _ (List.mem_append_left _ hb))
  refine ⟨cO_ok _ (h _ _ (.head _)) (fun _ => rfl), cO_ok _ (h _ _ (.tail _ (.head _))) (fun _ => rfl), cO_ok _ (h _ _ (.tail _ (.tail _ (.tail _ (.head _))))) (fun _ => rfl), fun x hx => ?_, cO_ok _ (h _ _ (.tail _ (.tail _ (.tail _ (.tail _ (.head _)))))) (fun _ => rfl), cO_ok _ (h _ _ (.tail _ (.tail _ (.tail _ (.tail _ (.tail _ (.head _))))))) (fun _ => rfl)⟩
  simp only [exRA, List.mem_cons, List.not_mem_nil, or_false] at hx
  subst hx
  exact cO_ok _ (h _ _ (.tail _ (.tail _ (.head _)))) (fun _ => rfl)
theorem exRA_sm (z : ExR) : RySm (exRA z) := ⟨by show (2 : Nat) ≤ _; decide, by show (1 : Nat) ≤ _; decide, by show (1 : Nat) ≤ _; decide, fun x hx => by
  simp only [exRA, List.mem_cons, List.not_mem_nil, or_false] at hx
  subst hx
  show (3 : Nat) ≤ _; decide, by show (2 : Nat) ≤ _; decide, by show (2 : Nat) ≤ _; decide⟩
theorem royal_calls (W : World) : Calls Tryz.prog 39 #[] W (News (fun z : ExR => (exRA z).v) exRB W) := by
  refine calls_start Tryz.func39 rfl rfl ?_
  refine st ?_
  refine RunL.new (New.alloc zero_35) rfl rfl rfl (fun b0 => ?_)
  refine st ?_
  refine lv (Val.build (parts := [(0, .const (.int .i64 20)), (1, .const (.int .i64 3)), (2, .const (.int .i64 30))]) rfl zero_109 places_109 rfl) ?_
  refine lv (Val.build (parts := [(0, .const (.int .i64 25)), (1, .const (.int .i64 12)), (2, .const (.int .i64 25))]) rfl zero_109 places_109 rfl) ?_
  refine RunL.new (New.buildSlice (parts := [(0, .tmp 1), (1, .tmp 2)]) rfl sl_31 zero_109 rfl rfl rfl rfl) rfl rfl rfl (fun b3 => ?_)
  refine RunL.new (New.buildSlice (parts := [(0, .const (.int .i64 99))]) rfl sl_27 zero_3 rfl rfl rfl rfl) rfl rfl rfl (fun b4 => ?_)
  refine RunL.new (New.buildSlice (parts := [(0, .const (.int .i64 334)), (1, .const (.int .i64 333)), (2, .const (.int .i64 333))]) rfl sl_27 zero_3 rfl rfl rfl rfl) rfl rfl rfl (fun b5 => ?_)
  refine RunL.new (New.buildSlice (parts := [(0, .tmp 5)]) rfl sl_32 zero_27 rfl rfl rfl rfl) rfl rfl rfl (fun b6 => ?_)
  refine lv (Val.build (parts := [(0, .const (.int .i64 0)), (2, .const (.int .i64 0)), (3, .const (.int .i64 5))]) rfl zero_111 places_111 rfl) ?_
  refine lv (Val.build (parts := [(0, .const (.int .i64 1)), (2, .const (.int .i64 4)), (3, .const (.int .i64 7))]) rfl zero_111 places_111 rfl) ?_
  refine RunL.new (New.buildSlice (parts := [(0, .tmp 7), (1, .tmp 8)]) rfl sl_33 zero_111 rfl rfl rfl rfl) rfl rfl rfl (fun b9 => ?_)
  refine RunL.new (New.buildSlice (parts := [(0, .const (.int .i64 0)), (1, .const (.int .i64 0))]) rfl sl_27 zero_3 rfl rfl rfl rfl) rfl rfl rfl (fun b10 => ?_)
  refine lv (Val.build (parts := [(0, .tmp 3), (1, .tmp 4), (2, .tmp 6), (3, .tmp 9), (4, .tmp 10)]) rfl zero_35 places_35 rfl) ?_
  refine RunL.sto (Sto.store rfl rfl (.there (.there (.there (.there (.there (.there .here)))))) ty_35 rfl rfl) rfl rfl ?_
  refine st ?_
  refine RunC.ret ?_
  exact RunE.ret (chg := []) (.r1 rfl (.agg rfl (.tail _ (.tail _ (.tail _ (.tail _ (.tail _ (.tail _ (.head _))))))) ty_35 rfl)) (fun _ hm => ⟨⟨b3, b4, b5, b6, b9, b10⟩, rfl, hm.pick (.cons (.there (.there (.there (.there (.there .here))))) rfl (.cons (.there (.there (.there (.there .here)))) rfl (.cons (.there (.there (.there .here))) rfl (.cons (.there (.there .here)) rfl (.cons (.there .here) rfl (.cons .here rfl .nil))))))⟩)
def exPA (z : Nat) : PsA := ⟨atB exP.cards z, exP.less, exP.loss⟩
def exPB (z : Nat) : Blks := [(z, cO (exP.cards.map Pt.cells).flatten 120)]
theorem exPA_pl (z : Nat) : (exPA z).pl = exP := rfl
theorem exPA_ok {z : Nat} {w W : World} {tl : Blks} (hm : Mem W [] (exPB z ++ tl) w) : (exPA z).cards.ok Pt.cells 5 w := by
  have h : ∀ b o, (b, o) ∈ exPB z → w.heap[b]? = some o := fun b o hb => hm.at (List.mem_append_right _ (List.mem_append_left _ hb))
  exact cO_ok _ (h _ _ (.head _)) (fun _ => rfl)
theorem prints_calls (W : World) : Calls Tryz.prog 40 #[] W (News (fun z : Nat => (exPA z).v) exPB W) := by
  refine calls_start Tryz.func40 rfl rfl ?_
  refine st ?_
  refine RunL.new (New.alloc zero_40) rfl rfl rfl (fun b0 => ?_)
  refine st ?_
  refine RunL.callP (isCall_func rfl ent_85) rfl rfl rfl (fun w hm => lspan_calls _ _ w) ?_
  refine RunL.callP (isCall_func rfl ent_85) rfl rfl rfl (fun w hm => lspan_calls _ _ w) ?_
  refine lv (Val.build (parts := [(0, .tmp 1), (1, .tmp 2)]) rfl zero_120 places_120 rfl) ?_
  refine RunL.new (New.buildSlice (parts := [(0, .tmp 3)]) rfl sl_36 zero_120 rfl rfl rfl rfl) rfl rfl rfl (fun b4 => ?_)
  refine RunL.callP (isCall_func rfl ent_85) rfl rfl rfl (fun w hm => lspan_calls _ _ w) ?_
  refine RunL.callP (isCall_func rfl ent_85) rfl rfl rfl (fun w hm => lspan_calls _ _ w) ?_
  refine lv (Val.build (parts := [(0, .tmp 4), (1, .tmp 5), (2, .tmp 6)]) rfl zero_40 places_40 rfl) ?_
  refine RunL.sto (Sto.store rfl rfl (.there .here) ty_40 rfl rfl) rfl rfl ?_
  refine st ?_
  refine RunC.ret ?_
  exact RunE.ret (chg := []) (.r1 rfl (.agg rfl (.tail _ (.head _)) ty_40 rfl)) (fun _ hm => ⟨b4, rfl, hm.pick (.cons .here rfl .nil)⟩)
end Go.Proofs.YtleamcmljcdapaaGreatDoor
namespace Go.Proofs.YtleamcmljcdapaaGreatDoor
open Go Go.Eng
theorem ent_10 : Enters Tryz.prog 10 := enters_of Tryz.func10 (by kernel_rfl) rfl
theorem ent_12 : Enters Tryz.prog 12 := enters_of Tryz.func12 (by kernel_rfl) rfl
theorem ent_14 : Enters Tryz.prog 14 := enters_of Tryz.func14 (by kernel_rfl) rfl
theorem ent_15 : Enters Tryz.prog 15 := enters_of Tryz.func15 (by kernel_rfl) rfl
theorem ent_17 : Enters Tryz.prog 17 := enters_of Tryz.func17 (by kernel_rfl) rfl
theorem ent_19 : Enters Tryz.prog 19 := enters_of Tryz.func19 (by kernel_rfl) rfl
theorem ent_21 : Enters Tryz.prog 21 := enters_of Tryz.func21 (by kernel_rfl) rfl
theorem ent_23 : Enters Tryz.prog 23 := enters_of Tryz.func23 (by kernel_rfl) rfl
theorem ent_24 : Enters Tryz.prog 24 := enters_of Tryz.func24 (by kernel_rfl) rfl
theorem ent_25 : Enters Tryz.prog 25 := enters_of Tryz.func25 (by kernel_rfl) rfl
theorem ent_27 : Enters Tryz.prog 27 := enters_of Tryz.func27 (by kernel_rfl) rfl
theorem ent_29 : Enters Tryz.prog 29 := enters_of Tryz.func29 (by kernel_rfl) rfl
theorem ent_30 : Enters Tryz.prog 30 := enters_of Tryz.func30 (by kernel_rfl) rfl
theorem ent_37 : Enters Tryz.prog 37 := enters_of Tryz.func37 (by kernel_rfl) rfl
theorem ent_38 : Enters Tryz.prog 38 := enters_of Tryz.func38 (by kernel_rfl) rfl
theorem ent_39 : Enters Tryz.prog 39 := enters_of Tryz.func39 (by kernel_rfl) rfl
theorem ent_40 : Enters Tryz.prog 40 := enters_of Tryz.func40 (by kernel_rfl) rfl
end Go.Proofs.YtleamcmljcdapaaGreatDoor
namespace Go.Bk
open Go Go.Eng Go.RowKit
theorem grow_news {β : Type} {P : Program} {f : FuncId} {args : Array Value} {w : World} {v : β → Value} {nw : β → Blks} {I : β → Prop} (h : Calls P f args w (Grow w [] v nw I)) : Calls P f args w (News (fun z : { b // I b } => v z.1) (fun z => nw z.1) w) :=
  calls_mono h (by rintro e w' ⟨b, h1, h2, h3⟩; exact ⟨⟨b, h1⟩, h2, h3⟩)
theorem rd_ok {α β : Type} {x : Except Int α} {pl : β → α} {ok : β → Prop} {z0 z : β} {e : Int} {t : α} (h : RdX x pl ok z0 (z, e)) (hx : x = .ok t) : pl z = t ∧ e = 0 ∧ ok z := by
  rcases h with ⟨t', h1, h2, h3, h4⟩ | ⟨k, h1, _⟩
  · rw [hx] at h1; cases h1; exact ⟨h2, h3, h4⟩
  · rw [hx] at h1; cases h1
end Go.Bk
namespace Go.Proofs.YtleamcmljcdapaaGreatDoor
open Go Go.Eng Go.Bk Go.RowKit

theorem wT (z : ExT) : writeV (tourX (exTA z).pl) (tourS (exTA z).pl) = .tuple #[.string (bs exTS), .int .i64 0] := by rw [exTA_pl, ← exT_text]; rfl
theorem wC (z : ExC) : writeV (cabX (exCA z).pl) (cabS (exCA z).pl) = .tuple #[.string (bs exCS), .int .i64 0] := by rw [exCA_pl, ← exC_text]; rfl
theorem wR (z : ExR) : writeV (royalX (exRA z).pl) (royalS (exRA z).pl) = .tuple #[.string (bs exRS), .int .i64 0] := by rw [exRA_pl, ← exR_text]; rfl
/-- What is read is compared with something. -/
theorem sameTX_calls (x : TrX) (h : TrXOk 10000 x) (u : TrA) (hs : TrSm u) (tl : Blks) (W0 w : World) (hm : Mem W0 [] (trB x ++ tl) w) (hU : TrOk w u) : Calls Tryz.prog 14 #[.agg x.cells.toArray, u.v] w (Pure (.bool (decide (x.pl = u.pl))) w) := by
  have h1 := rsameTour_calls x.toA u (h.sm (Nat.le_refl _)) hs w (trX_ok h hm) hU
  rw [TrX.toA_pl] at h1
  have e : x.toA.v = .agg x.cells.toArray := by unfold TrA.v; rw [h.cells]
  rw [e] at h1
  exact h1
theorem sameCX_calls (x : CbX) (h : CbXOk 10000 x) (u : CbA) (hs : CbS u) (tl : Blks) (W0 w : World) (hm : Mem W0 [] (cbB x ++ tl) w) (hU : CbOk w u) : Calls Tryz.prog 23 #[.agg x.cells.toArray, u.v] w (Pure (.bool (decide (x.pl = u.pl))) w) := by
  have h1 := rsameCabinet_calls x.toA u (h.sm (Nat.le_refl _)) hs w (cbX_ok h hm) hU
  rw [CbX.toA_pl] at h1
  have e : x.toA.v = .agg x.cells.toArray := by unfold CbA.v; rw [h.cells]
  rw [e] at h1
  exact h1
theorem sameRX_calls (x : RyX) (h : RyXOk 10000 x) (u : RyA) (hs : RySm u) (tl : Blks) (W0 w : World) (hm : Mem W0 [] (ryB x ++ tl) w) (hU : RyOk w u) : Calls Tryz.prog 24 #[.agg x.cells.toArray, u.v] w (Pure (.bool (decide (x.pl = u.pl))) w) := by
  have h1 := rsameRoyal_calls x.toA u (h.sm (Nat.le_refl _)) hs w (ryX_ok h hm) hU
  rw [RyX.toA_pl] at h1
  have e : x.toA.v = .agg x.cells.toArray := by unfold RyA.v; rw [h.cells]
  rw [e] at h1
  exact h1
theorem samePX_calls (x : PsX) (h : PsXOk x) (hl : x.cards.2.length ≤ 1000000) (u : PsA) (hs : u.cards.l.length ≤ 1000000) (tl : Blks) (W0 w : World) (hm : Mem W0 [] (ptB x.cards ++ tl) w) (hU : u.cards.ok Pt.cells 5 w) : Calls Tryz.prog 30 #[.agg x.cells.toArray, u.v] w (Pure (.bool (decide (x.pl = u.pl))) w) := by
  have h1 := rsamePrints_calls x.toA u w (own_sl (f := Pt.cells) (e := 120) (fun _ => rfl) (by decide) h (fun b o hb => (hm.newd b o (List.mem_append_left _ hb)).2)) hU hl hs
  have e : x.toA.v = .agg x.cells.toArray := by
    show Value.agg [(OL.sa x.cards).v, _, _, _, _].toArray = _
    rw [OL.sa_v h]
    rfl
  rw [e] at h1
  exact h1
theorem one_psX (x : PsX) : ∀ v ∈ x.cells, isOne v = true := fun v hv => by
  simp only [PsX.cells, List.mem_cons, List.not_mem_nil, or_false] at hv
  rcases hv with rfl | rfl | rfl | rfl | rfl <;> first | rfl | exact own_one _ _
theorem pure_true {P : Program} {f : FuncId} {args : Array Value} {w : World} {p : Prop} [Decidable p] (h : Calls P f args w (Pure (.bool (decide p)) w)) (hp : p) : Calls P f args w (Pure (.bool true) w) := by rw [decide_eq_true hp] at h; exact h
set_option maxHeartbeats 1000000 in
theorem alive_calls (W : World) (hL : Lw Tryz.prog W) : Calls Tryz.prog 9 #[] W (Pure (.bool true) W) := by
  refine calls_start Tryz.func9 rfl rfl ?_
  refine csr ?_
  refine vp rfl rfl rfl rfl ?_
  refine nsr ?_
  refine RunL.callN (isCall_func rfl ent_37) rfl rfl rfl (fun w hm => tour_calls w) (fun b18 => ?_)
  refine RunL.callP (isCall_func rfl ent_10) rfl rfl rfl (fun w hm => (by have h9 := WriteTour_calls (exTA b18) (exTA_sm b18) w (hL.mono hm) (exTA_ok hm); rw [wT] at h9; exact h9)) ?_
  iterate 5 refine vp rfl rfl rfl rfl ?_
  refine nnx ?_
  refine RunC.seq ?_
  refine RunC.keep (Sub.cons (t := 0) rfl (Sub.cons (t := 1) rfl (Sub.cons (t := 2) rfl (Sub.nil _)))) .nil ?_
  refine RunC.region ?_
  refine RunL.callN (isCall_func rfl ent_38) rfl rfl rfl (fun w hm => cabinet_calls w) (fun b23 => ?_)
  refine RunL.callP (isCall_func rfl ent_15) rfl rfl rfl (fun w hm => (by have h9 := WriteCabinet_calls (exCA b23) (exCA_s b23) w (hL.mono hm) (exCA_ok hm); rw [wC] at h9; exact h9)) ?_
  iterate 5 refine vp rfl rfl rfl rfl ?_
  refine nnx ?_
  refine RunC.seq ?_
  refine RunC.keep (Sub.cons (t := 0) rfl (Sub.cons (t := 1) rfl (Sub.cons (t := 2) rfl (Sub.cons (t := 3) rfl (Sub.cons (t := 4) rfl (Sub.nil _)))))) .nil ?_
  refine RunC.region ?_
  refine RunL.callN (isCall_func rfl ent_39) rfl rfl rfl (fun w hm => royal_calls w) (fun b28 => ?_)
  refine RunL.callP (isCall_func rfl ent_19) rfl rfl rfl (fun w hm => (by have h9 := WriteRoyal_calls (exRA b28) (exRA_sm b28) w (hL.mono hm) (exRA_ok hm); rw [wR] at h9; exact h9)) ?_
  iterate 5 refine vp rfl rfl rfl rfl ?_
  refine nnx ?_
  refine RunC.seq ?_
  refine RunC.keep (Sub.cons (t := 0) rfl (Sub.cons (t := 1) rfl (Sub.cons (t := 2) rfl (Sub.cons (t := 3) rfl (Sub.cons (t := 4) rfl (Sub.cons (t := 5) rfl (Sub.cons (t := 6) rfl (Sub.nil _)))))))) .nil ?_
  refine RunC.region ?_
  refine RunL.callN (isCall_func rfl ent_40) rfl rfl rfl (fun w hm => prints_calls w) (fun b33 => ?_)
  refine RunL.callNT (isCall_func rfl ent_25) rfl rfl rfl (fun w hm => (by have h9 := writePrints_ok (exPA b33) w (exPA_ok hm) exP_ok; simp only [exPA_pl, exP_bytes] at h9; exact grow_news h9)) (fun z34 => ?_)
  obtain ⟨y34, hy34⟩ := z34
  dsimp only
  iterate 5 refine vp rfl rfl rfl rfl ?_
  refine nnx ?_
  refine RunC.seq ?_
  refine RunC.seq ?_
  refine RunC.keep (Sub.cons (t := 0) rfl (Sub.cons (t := 1) rfl (Sub.cons (t := 2) rfl (Sub.cons (t := 3) rfl (Sub.cons (t := 4) rfl (Sub.cons (t := 5) rfl (Sub.cons (t := 6) rfl (Sub.cons (t := 7) rfl (Sub.cons (t := 8) rfl (Sub.nil _)))))))))) (Pick.skip (Pick.refl _)) ?_
  refine RunC.region ?_
  refine vp rfl rfl rfl rfl ?_
  refine RunL.val (Val.neqStr rfl rfl) rfl rfl rfl ?_
  refine vp rfl rfl rfl rfl ?_
  refine RunL.sure (dj := 39) false rfl (ndec rfl) ?_
  iterate 4 refine vp rfl rfl rfl rfl ?_
  refine RunL.sure (dj := 43) false rfl (by decide) ?_
  refine vp rfl rfl rfl rfl ?_
  refine RunL.val (Val.neqStr rfl rfl) rfl rfl rfl ?_
  refine vp rfl rfl rfl rfl ?_
  refine vp rfl rfl rfl rfl ?_
  refine RunL.sure (dj := 47) false rfl (ndec rfl) ?_
  iterate 4 refine vp rfl rfl rfl rfl ?_
  refine RunL.sure (dj := 51) false rfl (by decide) ?_
  refine vp rfl rfl rfl rfl ?_
  refine RunL.val (Val.neqStr rfl rfl) rfl rfl rfl ?_
  refine vp rfl rfl rfl rfl ?_
  refine vp rfl rfl rfl rfl ?_
  refine RunL.sure (dj := 55) false rfl (ndec rfl) ?_
  iterate 4 refine vp rfl rfl rfl rfl ?_
  refine RunL.sure (dj := 59) false rfl (by decide) ?_
  refine vp rfl rfl rfl rfl ?_
  refine RunL.new (New.buildSlice (parts := [(0, .const (.int .u8 80)), (1, .const (.int .u8 1)), (2, .const (.int .u8 0)), (3, .const (.int .u8 100)), (4, .const (.int .u8 0)), (5, .const (.int .u8 1)), (6, .const (.int .u8 1)), (7, .const (.int .u8 244)), (8, .const (.int .u8 0)), (9, .const (.int .u8 5)), (10, .const (.int .u8 0)), (11, .const (.int .u8 0)), (12, .const (.int .u8 0)), (13, .const (.int .u8 3)), (14, .const (.int .u8 0)), (15, .const (.int .u8 2)), (16, .const (.int .u8 0)), (17, .const (.int .u8 10)), (18, .const (.int .u8 0)), (19, .const (.int .u8 10)), (20, .const (.int .u8 29)), (21, .const (.int .u8 39))]) rfl sl_58 zero_5 rfl rfl rfl rfl) rfl rfl rfl (fun b61 => ?_)
  refine RunL.callP (isCall_func rfl ent_29) rfl rfl rfl (fun w hm => (pure_true (by rw [ownV_slice hy34]; exact rsameBytes_calls ⟨exPS, ownQ y34, ownK y34, 0, ownC y34⟩ (atB exPS b61) w (own_bytes hy34 (fun b o h => hm.at (.tail _ ((by first | exact List.mem_append_left _ h | exact List.mem_append_right _ (List.mem_append_left _ h)))))) (cO_ok (f := byC) exPS (hm.at (.head _)) (fun _ => rfl))) rfl)) ?_
  iterate 3 refine vp rfl rfl rfl rfl ?_
  refine RunL.sure (dj := 65) false rfl rfl ?_
  iterate 3 refine vp rfl rfl rfl rfl ?_
  refine nnx ?_
  refine RunC.cond rfl (fun h => absurd h (by decide)) ?_
  intro c0
  clear c0
  refine RunC.skip ?_
  refine RunE.next ?_
  refine csr ?_
  refine vp rfl rfl rfl rfl ?_
  refine RunL.callNA [(b61, _)] _ rfl (isCall_func rfl ent_12) rfl rfl rfl (fun w hm => grow_news (ReadTour_calls exTS w (hL.mono hm) (by rw [exT_len]; decide))) (fun z71 => ?_)
  obtain ⟨⟨x71, e71⟩, h71⟩ := z71
  obtain ⟨p71, e171, o71⟩ := rd_ok h71 exT_read
  subst e171
  dsimp only
  iterate 3 refine vp rfl rfl rfl rfl ?_
  refine RunL.new (New.alloc zero_25) rfl rfl rfl (fun b9 => ?_)
  refine RunL.sto (Sto.store (cs := zsrdT) (cs' := x71.cells) rfl rfl .here ty_25 rfl (paste_over rfl (one_trX _))) rfl rfl ?_
  refine vp rfl rfl rfl rfl ?_
  refine nsr ?_
  refine vp rfl rfl rfl rfl ?_
  refine RunL.callNA [(b9, _), (b61, _)] _ rfl (isCall_func rfl ent_17) rfl rfl rfl (fun w hm => grow_news (ReadCabinet_calls exCS w (hL.mono hm) (by rw [exC_len]; decide))) (fun z76 => ?_)
  obtain ⟨⟨x76, e76⟩, h76⟩ := z76
  obtain ⟨p76, e176, o76⟩ := rd_ok h76 exC_read
  subst e176
  dsimp only
  iterate 3 refine vp rfl rfl rfl rfl ?_
  refine RunL.new (New.alloc zero_30) rfl rfl rfl (fun b11 => ?_)
  refine RunL.sto (Sto.store (cs := zsrdC) (cs' := x76.cells) rfl rfl .here ty_30 rfl (paste_over rfl (one_cbX _))) rfl rfl ?_
  refine vp rfl rfl rfl rfl ?_
  refine nsr ?_
  refine vp rfl rfl rfl rfl ?_
  refine RunL.callNA [(b11, _), (b9, _), (b61, _)] _ rfl (isCall_func rfl ent_21) rfl rfl rfl (fun w hm => grow_news (ReadRoyal_calls exRS w (hL.mono hm) (by rw [exR_len]; decide))) (fun z81 => ?_)
  obtain ⟨⟨x81, e81⟩, h81⟩ := z81
  obtain ⟨p81, e181, o81⟩ := rd_ok h81 exR_read
  subst e181
  dsimp only
  iterate 3 refine vp rfl rfl rfl rfl ?_
  refine RunL.new (New.alloc zero_35) rfl rfl rfl (fun b13 => ?_)
  refine RunL.sto (Sto.store (cs := zsrdR) (cs' := x81.cells) rfl rfl .here ty_35 rfl (paste_over rfl (one_ryX _))) rfl rfl ?_
  refine vp rfl rfl rfl rfl ?_
  refine nsr ?_
  refine vp rfl rfl rfl rfl ?_
  refine RunL.callNA [(b13, _), (b11, _), (b9, _), (b61, _)] _ rfl (isCall_func rfl ent_27) rfl rfl rfl (fun w hm => (by rw [ownV_slice hy34]; exact grow_news (ReadPrints_calls exPS (ownQ y34) (ownK y34) 0 (ownC y34) w (own_bytes hy34 (fun b o h => hm.at (.tail _ (.tail _ (.tail _ (.tail _ ((by first | exact List.mem_append_right _ (List.mem_append_right _ (List.mem_append_right _ (List.mem_append_left _ h))) | exact List.mem_append_right _ (List.mem_append_right _ (List.mem_append_right _ (List.mem_append_right _ (List.mem_append_left _ h)))))))))))) (by decide)))) (fun z86 => ?_)
  obtain ⟨⟨x86, e86⟩, h86⟩ := z86
  obtain ⟨p86, e186, o86⟩ := rd_ok h86 exP_read
  subst e186
  dsimp only
  iterate 3 refine vp rfl rfl rfl rfl ?_
  refine RunL.new (New.alloc zero_40) rfl rfl rfl (fun b15 => ?_)
  refine RunL.sto (Sto.store (cs := zeroPX.cells) (cs' := x86.cells) rfl rfl .here ty_40 rfl (paste_over rfl (one_psX _))) rfl rfl ?_
  refine vp rfl rfl rfl rfl ?_
  refine nnx ?_
  refine RunC.seq ?_
  refine RunC.draw 28 fol_ (.cons .here rfl (.cons .here rfl (.cons .here rfl (.cons .here rfl (.cons .here rfl .nil))))) ?_
  refine va 0 rfl (Val.load_agg rfl (.tail _ (.tail _ (.tail _ (.head _)))) ty_25 rfl) rfl rfl rfl (.cons .here rfl (.cons .here rfl (.cons .here rfl (.cons .here rfl (.cons .here rfl .nil))))) rfl ?_
  refine RunA.one (i := 1) (by kernel_rfl) (by kernel_rfl) ?_
  refine RunI.callN rfl (isCall_func rfl ent_37) rfl rfl rfl (fun w hm => tour_calls w) (fun b90 => (RunK.toA (.cons .here rfl (.cons .here rfl (.cons .here rfl (.cons .here rfl (.cons .here rfl (.cons .here rfl (.cons .here rfl (.cons .here rfl (.cons .here rfl (.cons .here rfl (.cons .here rfl (.cons .here rfl .nil)))))))))))) (.cons (.there (.there (.there (.there (.there (.there (.there .here))))))) rfl (.cons (.there (.there (.there (.there (.there (.there (.there .here))))))) rfl (.cons (.there (.there (.there (.there (.there (.there (.there .here))))))) rfl (.cons (.there (.there (.there (.there (.there (.there (.there .here))))))) rfl (.cons (.there (.there (.there (.there (.there (.there (.there .here))))))) rfl .nil))))) rfl ?_))
  refine RunA.one (i := 2) (by kernel_rfl) (by kernel_rfl) ?_
  refine RunI.callP rfl (isCall_func rfl ent_14) rfl rfl rfl (fun w hm => (pure_true (sameTX_calls x71 o71 (exTA b90) (exTA_sm b90) [] W w (hm.pick (news' := trB x71 ++ []) (Pick.cnt fun x => by simp only [nC]; omega)) (exTA_ok hm)) p71)) (RunK.toA (.cons .here rfl (.cons .here rfl (.cons .here rfl (.cons .here rfl (.cons .here rfl (.cons .here rfl (.cons .here rfl (.cons .here rfl (.cons .here rfl (.cons .here rfl (.cons .here rfl (.cons .here rfl .nil)))))))))))) (.cons .here rfl (.cons .here rfl (.cons .here rfl (.cons .here rfl (.cons .here rfl (.cons .here rfl (.cons .here rfl (.cons .here rfl (.cons .here rfl (.cons .here rfl (.cons .here rfl (.cons .here rfl .nil)))))))))))) rfl ?_)
  refine va 3 rfl (Val.pure rfl) rfl rfl rfl (.cons .here rfl (.cons .here rfl (.cons .here rfl (.cons .here rfl (.cons .here rfl (.cons .here rfl (.cons .here rfl (.cons .here rfl (.cons .here rfl (.cons .here rfl (.cons .here rfl (.cons .here rfl .nil)))))))))))) rfl ?_
  refine RunA.sure (dj := 92) true rfl (by rfl) ?_
  refine va 4 rfl (Val.pure rfl) rfl rfl rfl (.cons .here rfl (.cons .here rfl (.cons .here rfl (.cons .here rfl (.cons .here rfl (.cons .here rfl (.cons .here rfl (.cons .here rfl (.cons .here rfl (.cons .here rfl (.cons .here rfl (.cons .here rfl .nil)))))))))))) rfl ?_
  refine va 5 rfl (Val.pure rfl) rfl rfl rfl (.cons .here rfl (.cons .here rfl (.cons .here rfl (.cons .here rfl (.cons .here rfl (.cons .here rfl (.cons .here rfl (.cons .here rfl (.cons .here rfl (.cons .here rfl (.cons .here rfl (.cons .here rfl .nil)))))))))))) rfl ?_
  refine va 6 rfl (Val.pure rfl) rfl rfl rfl (.cons .here rfl (.cons .here rfl (.cons .here rfl (.cons .here rfl (.cons .here rfl (.cons .here rfl (.cons .here rfl (.cons .here rfl (.cons .here rfl (.cons .here rfl (.cons .here rfl (.cons .here rfl .nil)))))))))))) rfl ?_
  refine va 7 rfl (Val.pure rfl) rfl rfl rfl (.cons .here rfl (.cons .here rfl (.cons .here rfl (.cons .here rfl (.cons .here rfl (.cons .here rfl (.cons .here rfl (.cons .here rfl (.cons .here rfl (.cons .here rfl (.cons .here rfl (.cons .here rfl .nil)))))))))))) rfl ?_
  refine RunA.sure (dj := 96) true rfl (by rfl) ?_
  refine va 8 rfl (Val.load_agg rfl (.tail _ (.tail _ (.tail _ (.tail _ (.tail _ (.tail _ (.tail _ (.tail _ (.tail _ (.head _)))))))))) ty_30 rfl) rfl rfl rfl (.cons .here rfl (.cons .here rfl (.cons .here rfl (.cons .here rfl (.cons .here rfl (.cons .here rfl (.cons .here rfl (.cons .here rfl (.cons .here rfl (.cons .here rfl (.cons .here rfl (.cons .here rfl .nil)))))))))))) rfl ?_
  refine RunA.one (i := 9) (by kernel_rfl) (by kernel_rfl) ?_
  refine RunI.callN rfl (isCall_func rfl ent_38) rfl rfl rfl (fun w hm => cabinet_calls w) (fun b98 => (RunK.toA (.cons .here rfl (.cons .here rfl (.cons .here rfl (.cons .here rfl (.cons .here rfl (.cons .here rfl (.cons .here rfl (.cons .here rfl (.cons .here rfl (.cons .here rfl (.cons .here rfl (.cons .here rfl (.cons .here rfl (.cons .here rfl .nil)))))))))))))) (.cons (.there (.there .here)) rfl (.cons (.there (.there .here)) rfl (.cons (.there (.there .here)) rfl (.cons (.there (.there .here)) rfl (.cons (.there (.there .here)) rfl (.cons (.there (.there .here)) rfl (.cons (.there (.there .here)) rfl (.cons (.there (.there .here)) rfl (.cons (.there (.there .here)) rfl (.cons (.there (.there .here)) rfl (.cons (.there (.there .here)) rfl (.cons (.there (.there .here)) rfl .nil)))))))))))) rfl ?_))
  refine RunA.one (i := 10) (by kernel_rfl) (by kernel_rfl) ?_
  refine RunI.callP rfl (isCall_func rfl ent_23) rfl rfl rfl (fun w hm => (pure_true (sameCX_calls x76 o76 (exCA b98) (exCA_s b98) [] W w (hm.pick (news' := cbB x76 ++ []) (Pick.cnt fun x => by simp only [nC]; omega)) (exCA_ok hm)) p76)) (RunK.toA (.cons .here rfl (.cons .here rfl (.cons .here rfl (.cons .here rfl (.cons .here rfl (.cons .here rfl (.cons .here rfl (.cons .here rfl (.cons .here rfl (.cons .here rfl (.cons .here rfl (.cons .here rfl (.cons .here rfl (.cons .here rfl .nil)))))))))))))) (.cons .here rfl (.cons .here rfl (.cons .here rfl (.cons .here rfl (.cons .here rfl (.cons .here rfl (.cons .here rfl (.cons .here rfl (.cons .here rfl (.cons .here rfl (.cons .here rfl (.cons .here rfl (.cons .here rfl (.cons .here rfl .nil)))))))))))))) rfl ?_)
  refine va 11 rfl (Val.pure rfl) rfl rfl rfl (.cons .here rfl (.cons .here rfl (.cons .here rfl (.cons .here rfl (.cons .here rfl (.cons .here rfl (.cons .here rfl (.cons .here rfl (.cons .here rfl (.cons .here rfl (.cons .here rfl (.cons .here rfl (.cons .here rfl (.cons .here rfl .nil)))))))))))))) rfl ?_
  refine va 12 rfl (Val.pure rfl) rfl rfl rfl (.cons .here rfl (.cons .here rfl (.cons .here rfl (.cons .here rfl (.cons .here rfl (.cons .here rfl (.cons .here rfl (.cons .here rfl (.cons .here rfl (.cons .here rfl (.cons .here rfl (.cons .here rfl (.cons .here rfl (.cons .here rfl .nil)))))))))))))) rfl ?_
  refine RunA.sure (dj := 101) true rfl (by rfl) ?_
  refine va 13 rfl (Val.pure rfl) rfl rfl rfl (.cons .here rfl (.cons .here rfl (.cons .here rfl (.cons .here rfl (.cons .here rfl (.cons .here rfl (.cons .here rfl (.cons .here rfl (.cons .here rfl (.cons .here rfl (.cons .here rfl (.cons .here rfl (.cons .here rfl (.cons .here rfl .nil)))))))))))))) rfl ?_
  refine va 14 rfl (Val.pure rfl) rfl rfl rfl (.cons .here rfl (.cons .here rfl (.cons .here rfl (.cons .here rfl (.cons .here rfl (.cons .here rfl (.cons .here rfl (.cons .here rfl (.cons .here rfl (.cons .here rfl (.cons .here rfl (.cons .here rfl (.cons .here rfl (.cons .here rfl .nil)))))))))))))) rfl ?_
  refine va 15 rfl (Val.pure rfl) rfl rfl rfl (.cons .here rfl (.cons .here rfl (.cons .here rfl (.cons .here rfl (.cons .here rfl (.cons .here rfl (.cons .here rfl (.cons .here rfl (.cons .here rfl (.cons .here rfl (.cons .here rfl (.cons .here rfl (.cons .here rfl (.cons .here rfl .nil)))))))))))))) rfl ?_
  refine va 16 rfl (Val.pure rfl) rfl rfl rfl (.cons .here rfl (.cons .here rfl (.cons .here rfl (.cons .here rfl (.cons .here rfl (.cons .here rfl (.cons .here rfl (.cons .here rfl (.cons .here rfl (.cons .here rfl (.cons .here rfl (.cons .here rfl (.cons .here rfl (.cons .here rfl .nil)))))))))))))) rfl ?_
  refine RunA.sure (dj := 105) true rfl (by rfl) ?_
  refine va 17 rfl (Val.load_agg rfl (.tail _ (.tail _ (.tail _ (.tail _ (.tail _ (.tail _ (.tail _ (.tail _ (.tail _ (.tail _ (.head _))))))))))) ty_35 rfl) rfl rfl rfl (.cons .here rfl (.cons .here rfl (.cons .here rfl (.cons .here rfl (.cons .here rfl (.cons .here rfl (.cons .here rfl (.cons .here rfl (.cons .here rfl (.cons .here rfl (.cons .here rfl (.cons .here rfl (.cons .here rfl (.cons .here rfl .nil)))))))))))))) rfl ?_
  refine RunA.one (i := 18) (by kernel_rfl) (by kernel_rfl) ?_
  refine RunI.callN rfl (isCall_func rfl ent_39) rfl rfl rfl (fun w hm => royal_calls w) (fun b107 => (RunK.toA (.cons .here rfl (.cons .here rfl (.cons .here rfl (.cons .here rfl (.cons .here rfl (.cons .here rfl (.cons .here rfl (.cons .here rfl (.cons .here rfl (.cons .here rfl (.cons .here rfl (.cons .here rfl (.cons .here rfl (.cons .here rfl (.cons .here rfl (.cons .here rfl (.cons .here rfl (.cons .here rfl (.cons .here rfl (.cons .here rfl .nil)))))))))))))))))))) (.cons (.there (.there (.there (.there (.there (.there .here)))))) rfl (.cons (.there (.there (.there (.there (.there (.there .here)))))) rfl (.cons (.there (.there (.there (.there (.there (.there .here)))))) rfl (.cons (.there (.there (.there (.there (.there (.there .here)))))) rfl (.cons (.there (.there (.there (.there (.there (.there .here)))))) rfl (.cons (.there (.there (.there (.there (.there (.there .here)))))) rfl (.cons (.there (.there (.there (.there (.there (.there .here)))))) rfl (.cons (.there (.there (.there (.there (.there (.there .here)))))) rfl (.cons (.there (.there (.there (.there (.there (.there .here)))))) rfl (.cons (.there (.there (.there (.there (.there (.there .here)))))) rfl (.cons (.there (.there (.there (.there (.there (.there .here)))))) rfl (.cons (.there (.there (.there (.there (.there (.there .here)))))) rfl (.cons (.there (.there (.there (.there (.there (.there .here)))))) rfl (.cons (.there (.there (.there (.there (.there (.there .here)))))) rfl .nil)))))))))))))) rfl ?_))
  refine RunA.one (i := 19) (by kernel_rfl) (by kernel_rfl) ?_
  refine RunI.callP rfl (isCall_func rfl ent_24) rfl rfl rfl (fun w hm => (pure_true (sameRX_calls x81 o81 (exRA b107) (exRA_sm b107) [] W w (hm.pick (news' := ryB x81 ++ []) (Pick.cnt fun x => by simp only [nC]; omega)) (exRA_ok hm)) p81)) (RunK.toA (.cons .here rfl (.cons .here rfl (.cons .here rfl (.cons .here rfl (.cons .here rfl (.cons .here rfl (.cons .here rfl (.cons .here rfl (.cons .here rfl (.cons .here rfl (.cons .here rfl (.cons .here rfl (.cons .here rfl (.cons .here rfl (.cons .here rfl (.cons .here rfl (.cons .here rfl (.cons .here rfl (.cons .here rfl (.cons .here rfl .nil)))))))))))))))))))) (.cons .here rfl (.cons .here rfl (.cons .here rfl (.cons .here rfl (.cons .here rfl (.cons .here rfl (.cons .here rfl (.cons .here rfl (.cons .here rfl (.cons .here rfl (.cons .here rfl (.cons .here rfl (.cons .here rfl (.cons .here rfl (.cons .here rfl (.cons .here rfl (.cons .here rfl (.cons .here rfl (.cons .here rfl (.cons .here rfl .nil)))))))))))))))))))) rfl ?_)
  refine va 20 rfl (Val.pure rfl) rfl rfl rfl (.cons .here rfl (.cons .here rfl (.cons .here rfl (.cons .here rfl (.cons .here rfl (.cons .here rfl (.cons .here rfl (.cons .here rfl (.cons .here rfl (.cons .here rfl (.cons .here rfl (.cons .here rfl (.cons .here rfl (.cons .here rfl (.cons .here rfl (.cons .here rfl (.cons .here rfl (.cons .here rfl (.cons .here rfl (.cons .here rfl .nil)))))))))))))))))))) rfl ?_
  refine va 21 rfl (Val.pure rfl) rfl rfl rfl (.cons .here rfl (.cons .here rfl (.cons .here rfl (.cons .here rfl (.cons .here rfl (.cons .here rfl (.cons .here rfl (.cons .here rfl (.cons .here rfl (.cons .here rfl (.cons .here rfl (.cons .here rfl (.cons .here rfl (.cons .here rfl (.cons .here rfl (.cons .here rfl (.cons .here rfl (.cons .here rfl (.cons .here rfl (.cons .here rfl .nil)))))))))))))))))))) rfl ?_
  refine RunA.sure (dj := 110) true rfl (by rfl) ?_
  refine va 22 rfl (Val.pure rfl) rfl rfl rfl (.cons .here rfl (.cons .here rfl (.cons .here rfl (.cons .here rfl (.cons .here rfl (.cons .here rfl (.cons .here rfl (.cons .here rfl (.cons .here rfl (.cons .here rfl (.cons .here rfl (.cons .here rfl (.cons .here rfl (.cons .here rfl (.cons .here rfl (.cons .here rfl (.cons .here rfl (.cons .here rfl (.cons .here rfl (.cons .here rfl .nil)))))))))))))))))))) rfl ?_
  refine va 23 rfl (Val.pure rfl) rfl rfl rfl (.cons .here rfl (.cons .here rfl (.cons .here rfl (.cons .here rfl (.cons .here rfl (.cons .here rfl (.cons .here rfl (.cons .here rfl (.cons .here rfl (.cons .here rfl (.cons .here rfl (.cons .here rfl (.cons .here rfl (.cons .here rfl (.cons .here rfl (.cons .here rfl (.cons .here rfl (.cons .here rfl (.cons .here rfl (.cons .here rfl .nil)))))))))))))))))))) rfl ?_
  refine va 24 rfl (Val.pure rfl) rfl rfl rfl (.cons .here rfl (.cons .here rfl (.cons .here rfl (.cons .here rfl (.cons .here rfl (.cons .here rfl (.cons .here rfl (.cons .here rfl (.cons .here rfl (.cons .here rfl (.cons .here rfl (.cons .here rfl (.cons .here rfl (.cons .here rfl (.cons .here rfl (.cons .here rfl (.cons .here rfl (.cons .here rfl (.cons .here rfl (.cons .here rfl .nil)))))))))))))))))))) rfl ?_
  refine va 25 rfl (Val.pure rfl) rfl rfl rfl (.cons .here rfl (.cons .here rfl (.cons .here rfl (.cons .here rfl (.cons .here rfl (.cons .here rfl (.cons .here rfl (.cons .here rfl (.cons .here rfl (.cons .here rfl (.cons .here rfl (.cons .here rfl (.cons .here rfl (.cons .here rfl (.cons .here rfl (.cons .here rfl (.cons .here rfl (.cons .here rfl (.cons .here rfl (.cons .here rfl .nil)))))))))))))))))))) rfl ?_
  refine RunA.sure (dj := 114) true rfl (by rfl) ?_
  refine va 26 rfl (Val.load_agg rfl (.tail _ (.tail _ (.tail _ (.tail _ (.tail _ (.tail _ (.tail _ (.tail _ (.tail _ (.tail _ (.tail _ (.tail _ (.tail _ (.tail _ (.tail _ (.head _)))))))))))))))) ty_40 rfl) rfl rfl rfl (.cons .here rfl (.cons .here rfl (.cons .here rfl (.cons .here rfl (.cons .here rfl (.cons .here rfl (.cons .here rfl (.cons .here rfl (.cons .here rfl (.cons .here rfl (.cons .here rfl (.cons .here rfl (.cons .here rfl (.cons .here rfl (.cons .here rfl (.cons .here rfl (.cons .here rfl (.cons .here rfl (.cons .here rfl (.cons .here rfl .nil)))))))))))))))))))) rfl ?_
  refine RunA.one (i := 27) (by kernel_rfl) (by kernel_rfl) ?_
  refine RunI.callN rfl (isCall_func rfl ent_40) rfl rfl rfl (fun w hm => prints_calls w) (fun b116 => (RunK.toA (.cons .here rfl (.cons .here rfl (.cons .here rfl (.cons .here rfl (.cons .here rfl (.cons .here rfl (.cons .here rfl (.cons .here rfl (.cons .here rfl (.cons .here rfl (.cons .here rfl (.cons .here rfl (.cons .here rfl (.cons .here rfl (.cons .here rfl (.cons .here rfl (.cons .here rfl (.cons .here rfl (.cons .here rfl (.cons .here rfl (.cons .here rfl .nil))))))))))))))))))))) (.cons (.there .here) rfl (.cons (.there .here) rfl (.cons (.there .here) rfl (.cons (.there .here) rfl (.cons (.there .here) rfl (.cons (.there .here) rfl (.cons (.there .here) rfl (.cons (.there .here) rfl (.cons (.there .here) rfl (.cons (.there .here) rfl (.cons (.there .here) rfl (.cons (.there .here) rfl (.cons (.there .here) rfl (.cons (.there .here) rfl (.cons (.there .here) rfl (.cons (.there .here) rfl (.cons (.there .here) rfl (.cons (.there .here) rfl (.cons (.there .here) rfl (.cons (.there .here) rfl .nil)))))))))))))))))))) rfl ?_))
  refine RunA.toB (by kernel_rfl) ?_
  refine RunB.one (i := 28) (by kernel_rfl) ?_
  refine RunI.callP rfl (isCall_func rfl ent_30) rfl rfl rfl (fun w hm => (pure_true (samePX_calls x86 o86 (by have h9 := congrArg (fun q : Ps => q.cards.length) p86; have h8 : x86.cards.2.length = 1 := h9; omega) (exPA b116) (by show (1 : Nat) ≤ _; decide) [] W w (hm.pick (news' := ptB x86.cards ++ []) (Pick.cnt fun x => by simp only [nC]; omega)) (exPA_ok hm)) p86)) (RunK.toB ?_)
  refine RunB.one (i := 29) (by kernel_rfl) ?_
  refine RunI.val rfl (Val.pure rfl) rfl rfl rfl (RunK.toB ?_)
  refine RunB.one (i := 30) (by kernel_rfl) ?_
  refine RunI.val rfl (Val.pure rfl) rfl rfl rfl (RunK.toB ?_)
  refine RunB.sure (dj := 119) true rfl (by rfl) ?_
  refine RunB.one (i := 31) (by kernel_rfl) ?_
  refine RunI.val rfl (Val.pure rfl) rfl rfl rfl (RunK.toB ?_)
  refine RunB.one (i := 32) (by kernel_rfl) ?_
  refine RunI.val rfl (Val.pure rfl) rfl rfl rfl (RunK.toB ?_)
  refine RunB.one (i := 33) (by kernel_rfl) ?_
  refine RunI.val rfl (Val.pure rfl) rfl rfl rfl (RunK.toB ?_)
  refine RunB.one (i := 34) (by kernel_rfl) ?_
  refine RunI.val rfl (Val.pure rfl) rfl rfl rfl (RunK.toB ?_)
  refine RunB.done (by kernel_rfl) ?_
  refine RunE.next ?_
  refine RunC.ret ?_
  exact RunE.retP (.r1 rfl (.tmp rfl)) (by first | rfl | simp)
end Go.Proofs.YtleamcmljcdapaaGreatDoor
namespace Go.Proofs.YtleamcmljcdapaaGreatDoor
open Go Go.Eng
theorem ent_9 : Enters Tryz.prog 9 := enters_of Tryz.func9 (by kernel_rfl) rfl
end Go.Proofs.YtleamcmljcdapaaGreatDoor
namespace Go.Eng
open Go Go.RowKit Go.ChangeShapes Go.WideShapes Go.ChangeAt
/-- The plain wrap, with the world's shape and what is listed. -/
theorem handed_shaped_and {H : Type} {enc : TypeId × Value → H} {a : Assume} {C : Checked} {os : Os} {f : FuncId} {fn : Func} {s : ChangeSpec} {conds : List PathCond} {apart fresh handsOn again : Bool} {X : World → Array Value → Prop}
    (hX : ∀ (w w' : World) (args : Array Value), w.heap = w'.heap → X w args → X w' args)
    (own : ownKnob C.prog.godebug = none) (started : os.Started) (noInit : C.prog.inits.idxOf? f = none) (hfn : C.prog.funcs[f]? = some fn)
    (witness : ∃ (w : World) (tape : Tape) (i : Input), w.os = os ∧ (w.forCall tape i).Shaped C.prog ∧ i.vars = [] ∧ Input.okWide C.prog (w.forCall tape i) .any w.heap.size f i ∧
      ((s.pre enc C.prog fn conds apart (w.forCall tape i).memory i.args ∧ X (w.forCall tape i).memory i.args) ∧ sizedMet enc C.prog fn (OpenSpec.ofChange s) apart (w.forCall tape i).memory i.args) ∧ a.holds C.prog (lone (Frame.enter C.prog f i.args .normal) [] (w.forCall tape i)))
    (contract : ∀ (W : World) (base : Nat) (args : Array Value) (ds gs : List (DataW H)) (before : List MemPlace),
      (∀ (j : Nat) t v, fn.params[j]? = some t → args[j]? = some v → Value.okWide C.prog W .any base t v) →
      DataW.Whole enc C.prog fn.params.toList s.vars apart W args.toList ds gs before → W.ShapedOpen C.prog → X W args →
      Calls C.prog f args W fun e W' => ∃ v, e = .returned v ∧ s.post enc C.prog fn apart fresh handsOn again W args v W') :
    ReturnsInHanded a C os f .any (fun w args => (s.pre enc C.prog fn conds apart w args ∧ X w args) ∧ sizedMet enc C.prog fn (OpenSpec.ofChange s) apart w args) (s.post enc C.prog fn apart fresh handsOn again) := by
  refine returnsInHanded_of_calls own started noInit witness ?_
  intro w tape i _ hsh _ hok hpre hholds
  obtain ⟨_, _, _, fn', hfn', _, _, _, _, hval⟩ := hok
  have e : fn' = fn := Option.some.inj (hfn'.symm.trans hfn)
  subst e
  obtain ⟨⟨⟨ds, gs, before, hw, hc⟩, hx⟩, hz⟩ := hpre
  have hw' := DataW.Whole.of_heap (w' := w.forCall tape i) (by rfl) hw
  refine (contract (w.forCall tape i) w.heap.size i.args ds gs before hval hw' hsh (hX _ _ _ (by rfl) hx)).mono fun e W' ⟨v, he, hp⟩ => ?_
  subst he
  exact ChangeSpec.post_blind hp
/-- As law_contract, at one world. -/
theorem law_contractW {H : Type} {enc : TypeId × Value → H} {P : Program} {f : Func} {s : ChangeSpec} {n : Nat} {shs : List Sh} {tb : TypeId} {F : FuncId} (hl : laidOutB P = true) (hsh : f.params.toList.mapM (shapeB P n) = some shs)
    (hp : f.params.toList.all (fun t => P.readableRec t && decide (t < P.types.size)) = true) (hr : f.resultTypes = #[tb]) (hb : P.underlying tb = some .bool) (hvars : s.vars = [])
    (hfn : ∀ ds : List (DataW H), ds.length = f.params.toList.length → s.fn H (ds ++ []) = { results := [.lit (.bool true)], args := ds })
    {W : World} (walk : ∀ vs : List Value, RdAll W shs vs → Calls P F vs.toArray W (Pure (.bool true) W)) {base : Nat} {args : Array Value} {ds gs : List (DataW H)} {before : List MemPlace} (hval : ∀ (j : Nat) t v, f.params[j]? = some t → args[j]? = some v → Value.okWide P W .any base t v)
    (hW : DataW.Whole enc P f.params.toList s.vars false W args.toList ds gs before) :
    Calls P F args W fun e W' => ∃ v, e = .returned v ∧ s.post enc P f false true false false W args v W' := by
  have hW' := hW
  obtain ⟨p, q, hA, hV, rfl, hfz, hnd⟩ := hW
  rw [hvars] at hV
  obtain ⟨rfl, rfl⟩ := trodVars_none hV
  have hrd : RdAll W shs args.toList := rdAll_of hsh (fun j t v hj hv => hval j t v (by simpa using hj) (by simpa using hv)) hA
  have hlen : ds.length = f.params.toList.length := by
    clear hW' hval hrd hfn hp hsh hfz hnd hV
    generalize f.params.toList = ts at hA
    generalize args.toList = vs at hA
    induction ts generalizing vs ds p with
    | nil => obtain ⟨_, rfl, _⟩ := trodAll_nil hA; rfl
    | cons t ts ih =>
      obtain ⟨v, vs', d, ds', p, q, rfl, rfl, rfl, h0, hr⟩ := trodAll_cons hA
      simp [ih _ _ hr]
  refine (walk args.toList hrd).mono fun e W' ⟨he, hm⟩ => ?_
  subst he
  have bel := hm.below
  refine ⟨_, rfl, ds, [], p ++ [], [], p, [], hW', ?_, ?_, ?_, bel.frame _, fun h => by cases h⟩
  · rw [hfn ds hlen, hr]
    exact trodAll_mk1 (shut_bool hb _)
  · rw [hfn ds hlen]
    exact trodAll_below hl bel hp hA
  · rw [hvars, hfn ds hlen]
    rfl
/-- A listed error: the variable holds an interface value. -/
theorem laid_iface {P : Program} {n nm : String} {d : DataW Unit} {r : List (String × DataW Unit)} {W : World} {g : Nat} {ti : TypeId} {ms : Array (String × TypeId)}
    (h : laidMet P ((n, .iface nm d) :: r) W) (hg : P.globalNamed n = some g) (ht : (P.globals[g]?).map (·.type) = some ti) (hi : P.underlying ti = some (.interface ms)) : ∃ te pe, W.cell? ⟨g, 0, none⟩ = some (.iface te pe) := by
  obtain ⟨ps, ⟨g0, t0, cs0, f0, p0, q0, hg0, ht0, hv0, hd0, _, e0⟩, _, hrows⟩ := h
  obtain rfl := Option.some.inj (hg.symm.trans hg0)
  obtain rfl := Option.some.inj (ht.symm.trans ht0)
  obtain ⟨f', u, v, hcs, _, _⟩ := iface_of_trod hi hd0
  have h1 := World.var?_cell hg0 hv0 0
  have e : cs0 = #[.iface u v] := by
    obtain ⟨l⟩ := cs0
    simp only at hcs
    rw [hcs]
  rw [e] at h1
  exact ⟨u, v, by simpa using h1⟩
end Go.Eng
namespace Go.Proofs.YtleamcmljcdapaaGreatDoor
open Go Go.Eng Go.Bk Go.RowKit

abbrev laidL : List (String × DataW Unit) := [("math/bits.deBruijn32tab", Rows.laid_math_bits_deBruijn32tab), ("math/bits.deBruijn64tab", Rows.laid_math_bits_deBruijn64tab), ("internal/strconv.uint64pow10", Rows.laid_internal_strconv_uint64pow10), ("unicode/utf8.acceptRanges", Rows.laid_unicode_utf8_acceptRanges), ("strconv.ErrRange", Rows.laid_strconv_ErrRange), ("strconv.ErrSyntax", Rows.laid_strconv_ErrSyntax), ("unicode/utf8.first", Rows.laid_unicode_utf8_first)]
theorem gMax : ((begin Tryz.prog (fun _ _ => 0) default).world.heap[0]?).bind Obj.row? = some (#[.int .i64 0], 3) := by kernel_rfl
theorem lw_of {W : World} (hsh : W.ShapedOpen Tryz.prog) (hL : laidMetH Tryz.prog laidL W) : Lw Tryz.prog W := by
  rw [MakeChecks.laidMetH_plain _ _ _ (by kernel_rfl)] at hL
  have h3 := hL.tail.tail
  have h5 := h3.tail.tail
  obtain ⟨te, pe, h1⟩ := laid_iface h5 (g := 3) (by kernel_rfl) (by kernel_rfl) Tryz.underlying150
  obtain ⟨te2, pe2, h2⟩ := laid_iface h5.tail (g := 2) (by kernel_rfl) (by kernel_rfl) Tryz.underlying150
  exact ⟨cell_of_shapedOpen_int hsh (by decide) gMax rfl (by kernel_rfl) (by kernel_rfl) Tryz.underlying3,
    Lib.tabIs_of_head (g := 1) (t := 256) (n := 20) (e := 241) (by kernel_rfl) (by kernel_rfl) (by kernel_rfl) (by kernel_rfl) (by kernel_rfl) (by kernel_rfl) h3,
    ⟨_, h2, .inr ⟨_, _, rfl⟩⟩, ⟨_, h1, .inr ⟨_, _, rfl⟩⟩⟩
theorem laid_fits (os : Os) : (World.holding Tryz.prog os ⟨#[], #[], []⟩).layFits Tryz.prog laidL [] = true := by kernel_rfl
theorem laid_ifaces (os : Os) : (World.holding Tryz.prog os ⟨#[], #[], []⟩).layIfaces Tryz.prog laidL (World.laidAll Tryz.prog os laidL) = true := by kernel_rfl
end Go.Proofs.YtleamcmljcdapaaGreatDoor
namespace Go.Proofs.YtleamcmljcdapaaGreatDoor
open Go Go.Eng
theorem ent_8 : Enters Tryz.prog 8 := enters_of Tryz.func8 (by kernel_rfl) rfl
end Go.Proofs.YtleamcmljcdapaaGreatDoor
namespace Go.Proofs.YtleamcmljcdapaaGreatDoor
open Go Go.Eng
theorem ent_134 : Enters Tryz.prog 134 := enters_of Tryz.func134 (by kernel_rfl) rfl
theorem ent_76 : Enters Tryz.prog 76 := enters_of Tryz.func76 (by kernel_rfl) rfl
theorem ent_77 : Enters Tryz.prog 77 := enters_of Tryz.func77 (by kernel_rfl) rfl
theorem ent_78 : Enters Tryz.prog 78 := enters_of Tryz.func78 (by kernel_rfl) rfl
end Go.Proofs.YtleamcmljcdapaaGreatDoor
namespace Go.Bk
open Go Go.Eng Go.RowKit
def rloanX (c : Cb) (l : Ln) : Bool := if l.kind = 2 then within l.slot 0 (c.slots - 1) && (decide (l.card = -1) || within l.card 0 ((c.homes.length : Int) - 1)) else (decide (l.kind = 0) || decide (l.kind = 1)) && within l.card 0 ((c.homes.length : Int) - 1) && within l.person 0 7
def oneX (l : List Int) (n : Int) (i : Nat) : Bool := within (l.getD i 0) 0 (n - 1) && (List.range i).all fun j => !decide (l.getD j 0 = l.getD i 0)
def rhomesX (l : List Int) (n : Int) (k : Nat) : Bool := (List.range k).all (oneX l n)
def rcabX (c : Cb) : Bool := within c.slots 1 6 && decide (c.homes.length ≤ 5) && within c.wrong 0 12 && decide (c.loans.length ≤ 12) && rhomesX c.homes c.slots c.homes.length && c.loans.all (rloanX c)
def plainL (l : Ln) : Bool := !((decide (l.kind = 2) && !decide (l.person = 0)) || (!decide (l.kind = 2) && !decide (l.slot = 0)))
theorem range_s {p : Nat → Bool} {k : Nat} : (List.range (k + 1)).all p = ((List.range k).all p && p k) := by simp [List.range_succ]
theorem range_no {p : Nat → Bool} {n k : Nat} (hk : k < n) (h : p k = false) : (List.range n).all p = false := by
  rw [List.all_eq_false]
  exact ⟨k, List.mem_range.2 hk, by simp [h]⟩
theorem idx_one (l : List Int) (i : Nat) (hi : i < l.length) : decide (idxX l (l.getD i 0) = (i : Int)) = (List.range i).all fun j => !decide (l.getD j 0 = l.getD i 0) := by
  have e : l.getD i 0 = l[i] := by rw [List.getD_eq_getElem?_getD, List.getElem?_eq_getElem hi]; rfl
  have ha : l.any (fun y => decide (l.getD i 0 = y)) = true := List.any_eq_true.2 ⟨l[i], List.getElem_mem hi, by rw [e]; simp⟩
  unfold idxX
  rw [if_pos ha]
  by_cases h : ∃ j, j < i ∧ l.getD j 0 = l.getD i 0
  · obtain ⟨j, hj, hjx⟩ := h
    rw [range_no hj (by rw [decide_eq_true hjx]; rfl)]
    refine decide_eq_false fun h9 => ?_
    have h8 : j < l.findIdx (fun y => decide (l.getD i 0 = y)) := by omega
    have h7 := List.not_of_lt_findIdx h8
    have e2 : l.getD j 0 = l[j] := by rw [List.getD_eq_getElem?_getD, List.getElem?_eq_getElem (by omega)]; rfl
    rw [e2] at hjx
    simp [hjx] at h7
  · have h2 : ∀ j, j < i → l.getD j 0 ≠ l.getD i 0 := fun j hj h3 => h ⟨j, hj, h3⟩
    rw [List.all_eq_true.2 (fun j hj => by rw [decide_eq_false (h2 j (List.mem_range.1 hj))]; rfl)]
    refine decide_eq_true ?_
    congr 1
    refine (List.findIdx_eq hi).2 ⟨by rw [e]; simp, fun j hj => ?_⟩
    have e2 : l.getD j 0 = l[j] := by rw [List.getD_eq_getElem?_getD, List.getElem?_eq_getElem (by omega)]; rfl
    refine decide_eq_false fun h9 => h2 j hj ?_
    rw [e2, h9]
theorem homes_r (c : Cb) : homesX c c.homes.length = rhomesX c.homes c.slots c.homes.length := by
  unfold homesX rhomesX
  rw [Bool.eq_iff_iff, List.all_eq_true, List.all_eq_true]
  refine ⟨fun h i hi => ?_, fun h i hi => ?_⟩
  · have h1 := h i hi
    rw [idx_one _ _ (List.mem_range.1 hi)] at h1
    exact h1
  · have h1 := h i hi
    unfold oneX at h1
    rw [← idx_one _ _ (List.mem_range.1 hi)] at h1
    exact h1
theorem loan_r (c : Cb) (l : Ln) : loanX c l = (rloanX c l && plainL l) := by
  unfold loanX rloanX plainL
  by_cases h2 : l.kind = 2
  · have h01 : ¬ (l.kind = 0 ∨ l.kind = 1) := by omega
    rw [if_neg h01, if_pos h2, if_pos h2]
    simp only [h2, decide_true, Bool.true_and, Bool.not_true, Bool.false_and, Bool.or_false, Bool.not_not]
    rw [Bool.or_comm (within l.card 0 _)]
    cases within l.slot 0 (c.slots - 1) <;> simp
  · rw [if_neg h2, if_neg h2]
    by_cases h01 : l.kind = 0 ∨ l.kind = 1
    · rw [if_pos h01]
      have e : (decide (l.kind = 0) || decide (l.kind = 1)) = true := by simpa using h01
      rw [e]
      simp [h2]
    · rw [if_neg h01]
      have e : (decide (l.kind = 0) || decide (l.kind = 1)) = false := by simpa using h01
      rw [e]
      simp
theorem cab_r (c : Cb) : cabX c = (rcabX c && c.loans.all plainL) := by
  unfold cabX rcabX
  have e : (!c.loans.any fun l => !loanX c l) = c.loans.all (loanX c) := by rw [List.any_eq_not_all_not]; simp
  have e2 : ∀ l : List Ln, l.all (loanX c) = (l.all (rloanX c) && l.all plainL) := fun l => by
    induction l with
    | nil => rfl
    | cons a l ih =>
      simp only [List.all_cons, ih, loan_r]
      cases rloanX c a <;> cases plainL a <;> simp
  rw [homes_r, e, e2, ← Bool.and_assoc]
end Go.Bk
namespace Go.Proofs.YtleamcmljcdapaaGreatDoor
open Go Go.Eng Go.Bk Go.RowKit

theorem rin11_calls (n lo hi : Int) (W : World) : Calls Tryz.prog 76 #[.int .i64 n, .int .i64 lo, .int .i64 hi] W (Pure (.bool (within n lo hi)) W) := by
  refine calls_start Tryz.func76 rfl rfl ?_
  refine st ?_
  refine RunL.andPart (dj := 10) (dp := 14) 4 rfl (fun g10 => by
    have g10' := g10
    try simp only [nH] at g10'
    refine sv ?_
    exact RunL.segEnd (Sub.cons rfl (Sub.skip rfl (Sub.skip rfl (Sub.skip rfl (Sub.skip rfl (Sub.same rfl (by rw [g10]) (Sub.refl _))))))) (List.Sublist.refl _)
  ) (fun g10 => by
    have g10' := g10
    try simp only [nH] at g10'
    iterate 3 refine RunL.no rfl rfl rfl ?_
    refine sv ?_
    exact RunL.segEnd (Sub.cons rfl (Sub.skip rfl (Sub.skip rfl (Sub.skip rfl (Sub.skip rfl (Sub.same rfl (by rw [g10]) (Sub.refl _))))))) (List.Sublist.refl _)
  ) ?_
  refine st ?_
  refine RunC.ret ?_
  exact RunE.retP (.r1 rfl (.tmp rfl)) (by first | rfl | simp)
theorem rslot_calls (c : CbA) (n : Int) (hs : 1 ≤ c.slots ∧ c.slots ≤ 6) (W : World) : Calls Tryz.prog 77 #[c.v, .int .i64 n] W (Pure (.bool (within n 0 (c.slots - 1))) W) := by
  refine calls_start Tryz.func77 rfl rfl ?_
  refine st ?_
  refine RunL.new (New.box rfl) rfl rfl rfl (fun b2 => ?_)
  refine st ?_
  refine lv (Val.fieldAddr rfl fld_30_0) ?_
  refine lv (Val.load_one rfl (.head _) ty_3 rfl) ?_
  refine lv (Val.sub' rfl rfl (IntWalk.i64_in _ ⟨by omega, by omega⟩)) ?_
  refine RunL.callP (isCall_func rfl ent_76) rfl rfl rfl (fun w hm => rin11_calls n 0 (c.slots - 1) w) ?_
  refine st ?_
  refine RunC.ret ?_
  exact RunE.retP (.r1 rfl (.tmp rfl)) (by first | rfl | simp)
theorem rcard_calls (c : CbA) (n : Int) (hs : c.homes.l.length ≤ 10000) (W : World) : Calls Tryz.prog 134 #[c.v, .int .i64 n] W (Pure (.bool (within n 0 ((c.homes.l.length : Int) - 1))) W) := by
  refine calls_start Tryz.func134 rfl rfl ?_
  refine st ?_
  refine RunL.new (New.box rfl) rfl rfl rfl (fun b2 => ?_)
  refine st ?_
  refine lv (Val.fieldAddr rfl fld_30_1) ?_
  refine lv (Val.load_one rfl (.head _) ty_27 rfl) ?_
  refine lv (Val.len_sl rfl sl_27) ?_
  refine lv (Val.sub' rfl rfl (IntWalk.i64_in _ ⟨by omega, by omega⟩)) ?_
  refine RunL.callP (isCall_func rfl ent_76) rfl rfl rfl (fun w hm => rin11_calls n 0 ((c.homes.l.length : Int) - 1) w) ?_
  refine st ?_
  refine RunC.ret ?_
  exact RunE.retP (.r1 rfl (.tmp rfl)) (by first | rfl | simp)
theorem rloan11_calls (c : CbA) (l : Ln) (hs : 1 ≤ c.slots ∧ c.slots ≤ 6) (hh : c.homes.l.length ≤ 10000) (W : World) : Calls Tryz.prog 78 #[c.v, .agg l.cells.toArray] W (Pure (.bool (rloanX c.pl l)) W) := by
  refine calls_start Tryz.func78 rfl rfl ?_
  refine csr ?_
  refine RunL.new (New.box rfl) rfl rfl rfl (fun b2 => ?_)
  refine RunL.new (New.box rfl) rfl rfl rfl (fun b3 => ?_)
  refine vp rfl rfl rfl rfl ?_
  refine nnx ?_
  refine RunC.seq ?_
  refine csr ?_
  refine RunL.val (Val.fieldAddr rfl fld_98_0) rfl rfl rfl ?_
  refine RunL.val (Val.load_one rfl (.head _) ty_3 rfl) rfl rfl rfl ?_
  refine vp rfl rfl rfl rfl ?_
  refine nnx ?_
  refine RunC.cond rfl ?_ ?_
  ·intro c0
   have c0' := c0; clear c0
   try simp only [nH] at c0'
   refine csr ?_
   refine RunL.val (Val.load_agg rfl (.tail _ (.head _)) ty_30 rfl) rfl rfl rfl ?_
   refine RunL.val (Val.fieldAddr rfl fld_98_3) rfl rfl rfl ?_
   refine RunL.val (Val.load_one rfl (.head _) ty_3 rfl) rfl rfl rfl ?_
   refine RunL.callP (isCall_func rfl ent_77) rfl rfl rfl (fun w hm => rslot_calls c l.slot hs w) ?_
   refine vp rfl rfl rfl rfl ?_
   refine RunL.andPart (dj := 12) (dp := 22) 10 rfl (fun g12 => by
     have g12' := g12
     try simp only [nH] at g12'
     refine RunL.val (Val.fieldAddr rfl fld_98_1) rfl rfl rfl ?_
     refine RunL.val (Val.load_one rfl (.head _) ty_3 rfl) rfl rfl rfl ?_
     refine vp rfl rfl rfl rfl ?_
     refine vp rfl rfl rfl rfl ?_
     refine RunL.orPart (dj := 16) (dp := 21) 5 rfl (fun g16 => by
       have g16' := g16
       try simp only [nH] at g16'
       refine RunL.val (Val.load_agg rfl (.tail _ (.head _)) ty_30 rfl) rfl rfl rfl ?_
       refine RunL.val (Val.fieldAddr rfl fld_98_1) rfl rfl rfl ?_
       refine RunL.val (Val.load_one rfl (.head _) ty_3 rfl) rfl rfl rfl ?_
       refine RunL.callP (isCall_func rfl ent_134) rfl rfl rfl (fun w hm => rcard_calls c l.card hh w) ?_
       refine vp rfl rfl rfl rfl ?_
       exact RunL.segEnd (Sub.cons rfl (Sub.skip rfl (Sub.skip rfl (Sub.skip rfl (Sub.skip rfl (Sub.skip rfl (Sub.same rfl (by rw [g16]) (Sub.refl _)))))))) (List.Sublist.refl _)
     ) (fun g16 => by
       have g16' := g16
       try simp only [nH] at g16'
       iterate 4 refine RunL.no rfl rfl rfl ?_
       refine vp rfl rfl rfl rfl ?_
       exact RunL.segEnd (Sub.cons rfl (Sub.skip rfl (Sub.skip rfl (Sub.skip rfl (Sub.skip rfl (Sub.skip rfl (Sub.same rfl (by rw [g16]) (Sub.refl _)))))))) (List.Sublist.refl _)
     ) ?_
     refine vp rfl rfl rfl rfl ?_
     exact RunL.segEnd (Sub.cons rfl (Sub.skip rfl (Sub.skip rfl (Sub.skip rfl (Sub.skip rfl (Sub.skip rfl (Sub.skip rfl (Sub.same rfl (by rw [g12]) (Sub.refl _))))))))) (List.Sublist.refl _)
   ) (fun g12 => by
     have g12' := g12
     try simp only [nH] at g12'
     iterate 9 refine RunL.no rfl rfl rfl ?_
     refine vp rfl rfl rfl rfl ?_
     exact RunL.segEnd (Sub.cons rfl (Sub.skip rfl (Sub.skip rfl (Sub.skip rfl (Sub.skip rfl (Sub.skip rfl (Sub.skip rfl (Sub.skip rfl (Sub.skip rfl (Sub.skip rfl (Sub.skip rfl (Sub.same rfl (by rw [g12]) (Sub.refl _))))))))))))) (List.Sublist.refl _)
   ) ?_
   refine vp rfl rfl rfl rfl ?_
   refine nnx ?_
   refine RunC.ret ?_
   refine RunE.pass_ret ?_
   exact RunE.retP (.r1 rfl (.tmp rfl)) (by unfold rloanX; rw [if_pos (by simpa using c0')]; rfl)
  intro c0
  have c0' := c0; clear c0
  try simp only [nH] at c0'
  refine RunC.skip ?_
  refine RunE.next ?_
  refine csr ?_
  refine RunL.val (Val.fieldAddr rfl fld_98_0) rfl rfl rfl ?_
  refine RunL.val (Val.load_one rfl (.head _) ty_3 rfl) rfl rfl rfl ?_
  refine vp rfl rfl rfl rfl ?_
  refine vp rfl rfl rfl rfl ?_
  refine RunL.orPart (dj := 26) (dp := 30) 4 rfl (fun g26 => by
    have g26' := g26
    try simp only [nH] at g26'
    refine RunL.val (Val.fieldAddr rfl fld_98_0) rfl rfl rfl ?_
    refine RunL.val (Val.load_one rfl (.head _) ty_3 rfl) rfl rfl rfl ?_
    refine vp rfl rfl rfl rfl ?_
    refine vp rfl rfl rfl rfl ?_
    exact RunL.segEnd (Sub.cons rfl (Sub.skip rfl (Sub.skip rfl (Sub.skip rfl (Sub.skip rfl (Sub.same rfl (by rw [g26]) (Sub.refl _))))))) (List.Sublist.refl _)
  ) (fun g26 => by
    have g26' := g26
    try simp only [nH] at g26'
    iterate 3 refine RunL.no rfl rfl rfl ?_
    refine vp rfl rfl rfl rfl ?_
    exact RunL.segEnd (Sub.cons rfl (Sub.skip rfl (Sub.skip rfl (Sub.skip rfl (Sub.skip rfl (Sub.same rfl (by rw [g26]) (Sub.refl _))))))) (List.Sublist.refl _)
  ) ?_
  refine vp rfl rfl rfl rfl ?_
  refine RunL.andPart (dj := 31) (dp := 36) 5 rfl (fun g31 => by
    have g31' := g31
    try simp only [nH] at g31'
    refine RunL.val (Val.load_agg rfl (.tail _ (.head _)) ty_30 rfl) rfl rfl rfl ?_
    refine RunL.val (Val.fieldAddr rfl fld_98_1) rfl rfl rfl ?_
    refine RunL.val (Val.load_one rfl (.head _) ty_3 rfl) rfl rfl rfl ?_
    refine RunL.callP (isCall_func rfl ent_134) rfl rfl rfl (fun w hm => rcard_calls c l.card hh w) ?_
    refine vp rfl rfl rfl rfl ?_
    exact RunL.segEnd (Sub.cons rfl (Sub.skip rfl (Sub.skip rfl (Sub.skip rfl (Sub.skip rfl (Sub.skip rfl (Sub.same rfl (by rw [g31]) (Sub.refl _)))))))) (List.Sublist.refl _)
  ) (fun g31 => by
    have g31' := g31
    try simp only [nH] at g31'
    iterate 4 refine RunL.no rfl rfl rfl ?_
    refine vp rfl rfl rfl rfl ?_
    exact RunL.segEnd (Sub.cons rfl (Sub.skip rfl (Sub.skip rfl (Sub.skip rfl (Sub.skip rfl (Sub.skip rfl (Sub.same rfl (by rw [g31]) (Sub.refl _)))))))) (List.Sublist.refl _)
  ) ?_
  refine vp rfl rfl rfl rfl ?_
  refine RunL.andPart (dj := 37) (dp := 41) 4 rfl (fun g37 => by
    have g37' := g37
    try simp only [nH] at g37'
    refine RunL.val (Val.fieldAddr rfl fld_98_2) rfl rfl rfl ?_
    refine RunL.val (Val.load_one rfl (.head _) ty_3 rfl) rfl rfl rfl ?_
    refine RunL.callP (isCall_func rfl ent_76) rfl rfl rfl (fun w hm => rin11_calls l.person 0 7 w) ?_
    refine vp rfl rfl rfl rfl ?_
    exact RunL.segEnd (Sub.cons rfl (Sub.skip rfl (Sub.skip rfl (Sub.skip rfl (Sub.skip rfl (Sub.same rfl (by rw [g37]) (Sub.refl _))))))) (List.Sublist.refl _)
  ) (fun g37 => by
    have g37' := g37
    try simp only [nH] at g37'
    iterate 3 refine RunL.no rfl rfl rfl ?_
    refine vp rfl rfl rfl rfl ?_
    exact RunL.segEnd (Sub.cons rfl (Sub.skip rfl (Sub.skip rfl (Sub.skip rfl (Sub.skip rfl (Sub.same rfl (by rw [g37]) (Sub.refl _))))))) (List.Sublist.refl _)
  ) ?_
  refine vp rfl rfl rfl rfl ?_
  refine nnx ?_
  refine RunC.ret ?_
  exact RunE.retP (.r1 rfl (.tmp rfl)) (by unfold rloanX; rw [if_neg (by simpa using c0')]; rfl)
theorem rplain_calls (c : CbA) (hs : CbS c) (W : World) (hC : CbOk W c) : Calls Tryz.prog 34 #[c.v] W (Pure (.bool (c.loans.l.all plainL)) W) := by
  obtain ⟨s1, s2⟩ := hs
  refine calls_start Tryz.func34 rfl rfl ?_
  refine st ?_
  refine RunL.new (New.box rfl) rfl rfl rfl (fun b1 => ?_)
  refine st ?_
  refine RunC.loopK (c.loans.l.length) (fun k q => (3, .int .i64 (k : Int)) :: q) (fun _ => _) (fun _ => []) (fun k => (c.loans.l.take k).all plainL = true) (by simp) rfl (Sub.consE (t := 3) rfl rfl (Sub.cons (t := 1) rfl (Sub.nil _))) (.cons .here rfl .nil) ?_
  intro k kN kI
  refine st ?_
  refine lv (Val.fieldAddr rfl fld_30_3) ?_
  refine lv (Val.load_one rfl (.head _) ty_28 rfl) ?_
  refine lv (Val.len_sl rfl sl_28) ?_
  refine cn rfl ?_ ?_
  ·intro c0'
   have hk : k < c.loans.l.length := by omega
   obtain ⟨y, hy⟩ : ∃ y, c.loans.l[k] = y := ⟨_, rfl⟩
   refine st ?_
   refine lv (Val.fieldAddr rfl fld_30_3) ?_
   refine lv (Val.load_one rfl (.head _) ty_28 rfl) ?_
   refine lv (Val.indexAddr_slp rfl rfl sl_28 (by omega) (by omega) (Sl.ptrM hC.loans hk)) ?_
   refine lv (Val.load_gen rfl (fun w hm => Sl.loadX hC.loans (by decide) hm (by simp) ty_98 hk hy)) ?_
   refine RunL.new (New.alloc zero_98) rfl rfl rfl (fun b4 => ?_)
   refine RunL.sto (Sto.store rfl rfl .here ty_98 rfl rfl) rfl rfl ?_
   refine st ?_
   refine lv (Val.fieldAddr rfl fld_98_0) ?_
   refine lv (Val.load_one rfl (.head _) ty_3 rfl) ?_
   refine RunL.andPart (dj := 20) (dp := 24) 4 rfl (fun g20 => by
     have g20' := g20
     try simp only [nH] at g20'
     refine lv (Val.fieldAddr rfl fld_98_2) ?_
     refine RunL.val (Val.load_one rfl (.head _) ty_3 rfl) rfl rfl rfl ?_
     refine sv ?_
     exact RunL.segEnd (Sub.cons rfl (Sub.skip rfl (Sub.skip rfl (Sub.skip rfl (Sub.skip rfl (Sub.same rfl (by rw [g20]) (Sub.refl _))))))) (List.Sublist.refl _)
   ) (fun g20 => by
     have g20' := g20
     try simp only [nH] at g20'
     iterate 3 refine RunL.no rfl rfl rfl ?_
     refine sv ?_
     exact RunL.segEnd (Sub.cons rfl (Sub.skip rfl (Sub.skip rfl (Sub.skip rfl (Sub.skip rfl (Sub.same rfl (by rw [g20]) (Sub.refl _))))))) (List.Sublist.refl _)
   ) ?_
   refine st ?_
   refine RunL.orPart (dj := 25) (dp := 34) 9 rfl (fun g25 => by
     have g25' := g25
     try simp only [nH] at g25'
     refine lv (Val.fieldAddr rfl fld_98_0) ?_
     refine lv (Val.load_one rfl (.head _) ty_3 rfl) ?_
     refine RunL.andPart (dj := 29) (dp := 33) 4 rfl (fun g29 => by
       have g29' := g29
       try simp only [nH] at g29'
       refine lv (Val.fieldAddr rfl fld_98_3) ?_
       refine RunL.val (Val.load_one rfl (.head _) ty_3 rfl) rfl rfl rfl ?_
       refine sv ?_
       exact RunL.segEnd (Sub.cons rfl (Sub.skip rfl (Sub.skip rfl (Sub.skip rfl (Sub.skip rfl (Sub.same rfl (by rw [g29]) (Sub.refl _))))))) (List.Sublist.refl _)
     ) (fun g29 => by
       have g29' := g29
       try simp only [nH] at g29'
       iterate 3 refine RunL.no rfl rfl rfl ?_
       refine sv ?_
       exact RunL.segEnd (Sub.cons rfl (Sub.skip rfl (Sub.skip rfl (Sub.skip rfl (Sub.skip rfl (Sub.same rfl (by rw [g29]) (Sub.refl _))))))) (List.Sublist.refl _)
     ) ?_
     refine sv ?_
     exact RunL.segEnd (Sub.cons rfl (Sub.skip rfl (Sub.skip rfl (Sub.skip rfl (Sub.skip rfl (Sub.skip rfl (Sub.skip rfl (Sub.same rfl (by rw [g25]) (Sub.refl _))))))))) (List.Sublist.refl _)
   ) (fun g25 => by
     have g25' := g25
     try simp only [nH] at g25'
     iterate 8 refine RunL.no rfl rfl rfl ?_
     refine sv ?_
     exact RunL.segEnd (Sub.cons rfl (Sub.skip rfl (Sub.skip rfl (Sub.skip rfl (Sub.skip rfl (Sub.skip rfl (Sub.skip rfl (Sub.skip rfl (Sub.skip rfl (Sub.skip rfl (Sub.same rfl (by rw [g25]) (Sub.refl _)))))))))))) (List.Sublist.refl _)
   ) ?_
   refine st ?_
   refine cn rfl ?_ ?_
   ·intro c1'
    refine st ?_
    refine RunC.ret ?_
    refine RunE.block_ret ?_
    refine RunE.pass_ret ?_
    refine RunE.pass_ret ?_
    refine RunE.block_ret ?_
    refine RunE.pass_ret ?_
    exact RunE.retP (.r1 rfl (.tmp rfl)) (by rw [all_no hk hy (by unfold plainL; simp; omega)])
   intro c1'
   refine st ?_
   refine lv (Val.add rfl rfl (IntWalk.i64_in _ ⟨by omega, by omega⟩)) ?_
   exact RunE.round (by omega) (take_all hk hy kI (by unfold plainL; simp_all)) rfl (Sub.consE (t := 3) rfl rfl (Sub.cons (t := 1) rfl (Sub.nil _))) (.cons (.there .here) rfl .nil)
  intro c0'
  obtain rfl : k = c.loans.l.length := by omega
  rw [List.take_length] at kI
  refine RunC.exit ?_
  refine RunE.pass_exit ?_
  refine RunE.pass_exit ?_
  refine RunE.block_here ?_
  refine st ?_
  refine RunC.ret ?_
  exact RunE.retP (.r1 rfl (.tmp rfl)) (by rw [kI])
theorem rCabinet_calls (c : CbA) (hs : CbS c) (W : World) (hC : CbOk W c) : Calls Tryz.prog 33 #[c.v] W (Pure (.bool (rcabX c.pl)) W) := by
  obtain ⟨s1, s2⟩ := hs
  refine calls_start Tryz.func33 rfl rfl ?_
  refine st ?_
  refine RunL.new (New.box rfl) rfl rfl rfl (fun b1 => ?_)
  refine st ?_
  refine lv (Val.fieldAddr rfl fld_30_0) ?_
  refine lv (Val.load_one rfl (.head _) ty_3 rfl) ?_
  refine RunL.callP (isCall_func rfl ent_76) rfl rfl rfl (fun w hm => rin11_calls c.slots 1 6 w) ?_
  refine st ?_
  refine RunL.orPart (dj := 10) (dp := 15) 5 rfl (fun g10 => by
    have g10' := g10
    try simp only [nH] at g10'
    refine lv (Val.fieldAddr rfl fld_30_1) ?_
    refine lv (Val.load_one rfl (.head _) ty_27 rfl) ?_
    refine RunL.val (Val.len_sl rfl sl_27) rfl rfl rfl ?_
    refine sv ?_
    exact RunL.segEnd (Sub.cons rfl (Sub.skip rfl (Sub.skip rfl (Sub.skip rfl (Sub.skip rfl (Sub.skip rfl (Sub.same rfl (by rw [g10]) (Sub.refl _)))))))) (List.Sublist.refl _)
  ) (fun g10 => by
    have g10' := g10
    try simp only [nH] at g10'
    iterate 4 refine RunL.no rfl rfl rfl ?_
    refine sv ?_
    exact RunL.segEnd (Sub.cons rfl (Sub.skip rfl (Sub.skip rfl (Sub.skip rfl (Sub.skip rfl (Sub.skip rfl (Sub.same rfl (by rw [g10]) (Sub.refl _)))))))) (List.Sublist.refl _)
  ) ?_
  refine st ?_
  refine RunL.orPart (dj := 16) (dp := 21) 5 rfl (fun g16 => by
    have g16' := g16
    try simp only [nH] at g16'
    refine lv (Val.fieldAddr rfl fld_30_2) ?_
    refine lv (Val.load_one rfl (.head _) ty_3 rfl) ?_
    refine RunL.callP (isCall_func rfl ent_76) rfl rfl rfl (fun w hm => rin11_calls c.wrong 0 12 w) ?_
    refine sv ?_
    exact RunL.segEnd (Sub.cons rfl (Sub.skip rfl (Sub.skip rfl (Sub.skip rfl (Sub.skip rfl (Sub.skip rfl (Sub.same rfl (by rw [g16]) (Sub.refl _)))))))) (List.Sublist.refl _)
  ) (fun g16 => by
    have g16' := g16
    try simp only [nH] at g16'
    iterate 4 refine RunL.no rfl rfl rfl ?_
    refine sv ?_
    exact RunL.segEnd (Sub.cons rfl (Sub.skip rfl (Sub.skip rfl (Sub.skip rfl (Sub.skip rfl (Sub.skip rfl (Sub.same rfl (by rw [g16]) (Sub.refl _)))))))) (List.Sublist.refl _)
  ) ?_
  refine st ?_
  refine RunL.orPart (dj := 22) (dp := 27) 5 rfl (fun g22 => by
    have g22' := g22
    try simp only [nH] at g22'
    refine lv (Val.fieldAddr rfl fld_30_3) ?_
    refine lv (Val.load_one rfl (.head _) ty_28 rfl) ?_
    refine RunL.val (Val.len_sl rfl sl_28) rfl rfl rfl ?_
    refine sv ?_
    exact RunL.segEnd (Sub.cons rfl (Sub.skip rfl (Sub.skip rfl (Sub.skip rfl (Sub.skip rfl (Sub.skip rfl (Sub.same rfl (by rw [g22]) (Sub.refl _)))))))) (List.Sublist.refl _)
  ) (fun g22 => by
    have g22' := g22
    try simp only [nH] at g22'
    iterate 4 refine RunL.no rfl rfl rfl ?_
    refine sv ?_
    exact RunL.segEnd (Sub.cons rfl (Sub.skip rfl (Sub.skip rfl (Sub.skip rfl (Sub.skip rfl (Sub.skip rfl (Sub.same rfl (by rw [g22]) (Sub.refl _)))))))) (List.Sublist.refl _)
  ) ?_
  refine st ?_
  refine cn rfl ?_ ?_
  ·intro c0'
   refine st ?_
   refine RunC.ret ?_
   refine RunE.pass_ret ?_
   exact RunE.retP (.r1 rfl (.tmp rfl)) (by unfold rcabX; show Value.bool false = Value.bool (within c.slots 1 6 && decide (c.homes.l.length ≤ 5) && within c.wrong 0 12 && decide (c.loans.l.length ≤ 12) && rhomesX c.homes.l c.slots c.homes.l.length && c.loans.l.all (rloanX c.pl)); congr 1; rcases c0' with ((h | h) | h) | h; rw [h]; rfl; rw [decide_eq_false (show ¬ c.homes.l.length ≤ 5 by omega)]; simp; rw [h]; simp; rw [decide_eq_false (show ¬ c.loans.l.length ≤ 12 by omega)]; simp)
  intro c0'
  have hwi : within c.slots 1 6 = true := by simp_all
  have hsl : 1 ≤ c.slots ∧ c.slots ≤ 6 := by simpa [within] using hwi
  refine st ?_
  refine RunC.loopK (c.homes.l.length) (fun k q => (3, .int .i64 (k : Int)) :: q) (fun _ => _) (fun _ => []) (fun k => rhomesX c.homes.l c.slots k = true) (by rfl) rfl (Sub.consE (t := 3) rfl rfl (Sub.cons (t := 1) rfl (Sub.nil _))) (.cons .here rfl .nil) ?_
  intro k kN kI
  refine st ?_
  refine lv (Val.fieldAddr rfl fld_30_1) ?_
  refine lv (Val.load_one rfl (.head _) ty_27 rfl) ?_
  refine lv (Val.len_sl rfl sl_27) ?_
  refine cn rfl ?_ ?_
  ·intro c1'
   have hk : k < c.homes.l.length := by omega
   obtain ⟨y, hy⟩ : ∃ y, c.homes.l[k] = y := ⟨_, rfl⟩
   have hyg : c.homes.l.getD k 0 = y := (by rw [List.getD_eq_getElem?_getD, List.getElem?_eq_getElem hk, hy]; rfl)
   refine st ?_
   refine RunC.draw 6 fol_ (.cons .here rfl .nil) ?_
   refine va 0 rfl (Val.load_agg rfl (.head _) ty_30 rfl) rfl rfl rfl (.cons .here rfl .nil) rfl ?_
   refine va 1 rfl (Val.fieldAddr rfl fld_30_1) rfl rfl rfl (.cons .here rfl .nil) rfl ?_
   refine va 2 rfl (Val.load_one rfl (.head _) ty_27 rfl) rfl rfl rfl (.cons .here rfl .nil) rfl ?_
   refine va 3 rfl (Val.pure rfl) rfl rfl rfl (.cons .here rfl .nil) rfl ?_
   refine va 4 rfl (Val.indexAddr_slp rfl rfl sl_27 (by omega) (by omega) (Sl.ptrM hC.homes hk)) rfl rfl rfl (.cons .here rfl .nil) rfl ?_
   refine va 5 rfl (Val.load_gen rfl (fun w hm => Sl.loadM1 hC.homes (by decide) hm (by simp) ty_3 hk (v := .int .i64 y) (by simp [intC, hy]))) rfl rfl rfl (.cons .here rfl .nil) rfl ?_
   refine RunA.toB (by kernel_rfl) ?_
   refine RunB.one (i := 6) (by kernel_rfl) ?_
   refine RunI.callP rfl (isCall_func rfl ent_77) rfl rfl rfl (fun w hm => rslot_calls c y hsl w) (RunK.toB ?_)
   refine RunB.one (i := 7) (by kernel_rfl) ?_
   refine RunI.val rfl (Val.pure rfl) rfl rfl rfl (RunK.toB ?_)
   refine RunB.done (by kernel_rfl) ?_
   refine st ?_
   refine cn rfl ?_ ?_
   ·intro c2'
    refine st ?_
    refine RunC.ret ?_
    refine RunE.pass_ret ?_
    refine RunE.block_ret ?_
    refine RunE.pass_ret ?_
    refine RunE.pass_ret ?_
    refine RunE.block_ret ?_
    refine RunE.pass_ret ?_
    exact RunE.retP (.r1 rfl (.tmp rfl)) (by unfold rcabX; rw [show rhomesX c.pl.homes c.pl.slots c.pl.homes.length = false from range_no hk (by unfold oneX; rw [show c.pl.homes.getD k 0 = y from hyg]; simp_all [CbA.pl])]; simp)
   intro c2'
   refine st ?_
   refine RunC.loopK (k) (fun j q => (4, .int .i64 (j : Int)) :: q) (fun _ => _) (fun _ => []) (fun j => (List.range j).all (fun m => !decide (c.homes.l.getD m 0 = y)) = true) (by rfl) rfl (Sub.consE (t := 4) rfl rfl (Sub.cons (t := 1) rfl (Sub.cons (t := 3) rfl (Sub.nil _)))) (.cons .here rfl .nil) ?_
   intro j jN jI
   refine st ?_
   refine cn rfl ?_ ?_
   ·intro c3'
    have hj : j < c.homes.l.length := by omega
    obtain ⟨z, hz⟩ : ∃ z, c.homes.l[j] = z := ⟨_, rfl⟩
    have hzg : c.homes.l.getD j 0 = z := (by rw [List.getD_eq_getElem?_getD, List.getElem?_eq_getElem hj, hz]; rfl)
    refine st ?_
    refine RunC.draw 10 fol_ (.cons .here rfl .nil) ?_
    refine va 0 rfl (Val.fieldAddr rfl fld_30_1) rfl rfl rfl (.cons .here rfl .nil) rfl ?_
    refine va 1 rfl (Val.load_one rfl (.head _) ty_27 rfl) rfl rfl rfl (.cons .here rfl .nil) rfl ?_
    refine va 2 rfl (Val.pure rfl) rfl rfl rfl (.cons .here rfl .nil) rfl ?_
    refine va 3 rfl (Val.indexAddr_slp rfl rfl sl_27 (by omega) (by omega) (Sl.ptrM hC.homes hj)) rfl rfl rfl (.cons .here rfl .nil) rfl ?_
    refine va 4 rfl (Val.load_gen rfl (fun w hm => Sl.loadM1 hC.homes (by decide) hm (by simp) ty_3 hj (v := .int .i64 z) (by simp [intC, hz]))) rfl rfl rfl (.cons .here rfl .nil) rfl ?_
    refine va 5 rfl (Val.fieldAddr rfl fld_30_1) rfl rfl rfl (.cons .here rfl .nil) rfl ?_
    refine va 6 rfl (Val.load_one rfl (.head _) ty_27 rfl) rfl rfl rfl (.cons .here rfl .nil) rfl ?_
    refine va 7 rfl (Val.pure rfl) rfl rfl rfl (.cons .here rfl .nil) rfl ?_
    refine va 8 rfl (Val.indexAddr_slp rfl rfl sl_27 (by omega) (by omega) (Sl.ptrM hC.homes hk)) rfl rfl rfl (.cons .here rfl .nil) rfl ?_
    refine va 9 rfl (Val.load_gen rfl (fun w hm => Sl.loadM1 hC.homes (by decide) hm (by simp) ty_3 hk (v := .int .i64 y) (by simp [intC, hy]))) rfl rfl rfl (.cons .here rfl .nil) rfl ?_
    refine RunA.toB (by kernel_rfl) ?_
    refine RunB.one (i := 10) (by kernel_rfl) ?_
    refine RunI.val rfl (Val.pure rfl) rfl rfl rfl (RunK.toB ?_)
    refine RunB.done (by kernel_rfl) ?_
    refine st ?_
    refine cn rfl ?_ ?_
    ·intro c4'
     refine st ?_
     refine RunC.ret ?_
     refine RunE.block_ret ?_
     refine RunE.pass_ret ?_
     refine RunE.pass_ret ?_
     refine RunE.block_ret ?_
     refine RunE.block_ret ?_
     refine RunE.pass_ret ?_
     refine RunE.pass_ret ?_
     refine RunE.block_ret ?_
     refine RunE.pass_ret ?_
     exact RunE.retP (.r1 rfl (.tmp rfl)) (by unfold rcabX; rw [show rhomesX c.pl.homes c.pl.slots c.pl.homes.length = false from range_no hk (by unfold oneX; rw [show c.pl.homes.getD k 0 = y from hyg]; rw [range_no (n := k) (k := j) (by omega) (by rw [show c.pl.homes.getD j 0 = z from hzg]; simpa using c4')]; simp)]; simp)
    intro c4'
    refine st ?_
    refine lv (Val.add rfl rfl (IntWalk.i64_in _ ⟨by omega, by omega⟩)) ?_
    exact RunE.round (by omega) (by rw [range_s, jI, hzg]; simpa using c4') rfl (Sub.consE (t := 4) rfl rfl (Sub.cons (t := 1) rfl (Sub.cons (t := 3) rfl (Sub.nil _)))) (.cons .here rfl .nil)
   intro c3'
   obtain rfl : k = j := by omega
   refine RunC.exit ?_
   refine RunE.pass_exit ?_
   refine RunE.pass_exit ?_
   refine RunE.block_here ?_
   refine st ?_
   refine lv (Val.add rfl rfl (IntWalk.i64_in _ ⟨by omega, by omega⟩)) ?_
   exact RunE.round (by omega) (by unfold rhomesX; rw [range_s]; rw [show (List.range k).all (oneX c.homes.l c.slots) = true from kI]; unfold oneX; rw [hyg, jI]; simpa using c2') rfl (Sub.consE (t := 3) rfl rfl (Sub.cons (t := 1) rfl (Sub.nil _))) (.cons .here rfl .nil)
  intro c1'
  obtain rfl : k = c.homes.l.length := by omega
  have hro := kI
  clear kI
  refine RunC.exit ?_
  refine RunE.pass_exit ?_
  refine RunE.pass_exit ?_
  refine RunE.block_here ?_
  refine st ?_
  refine RunC.loopK (c.loans.l.length) (fun k q => (5, .int .i64 (k : Int)) :: q) (fun _ => _) (fun _ => []) (fun k => (c.loans.l.take k).all (rloanX c.pl) = true) (by simp) rfl (Sub.consE (t := 5) rfl rfl (Sub.cons (t := 1) rfl (Sub.nil _))) (.cons .here rfl .nil) ?_
  intro k kN kI
  refine st ?_
  refine lv (Val.fieldAddr rfl fld_30_3) ?_
  refine lv (Val.load_one rfl (.head _) ty_28 rfl) ?_
  refine lv (Val.len_sl rfl sl_28) ?_
  refine cn rfl ?_ ?_
  ·intro c5'
   have hk : k < c.loans.l.length := by omega
   obtain ⟨y, hy⟩ : ∃ y, c.loans.l[k] = y := ⟨_, rfl⟩
   refine st ?_
   refine RunC.draw 6 fol_ (.cons .here rfl .nil) ?_
   refine va 0 rfl (Val.load_agg rfl (.head _) ty_30 rfl) rfl rfl rfl (.cons .here rfl .nil) rfl ?_
   refine va 1 rfl (Val.fieldAddr rfl fld_30_3) rfl rfl rfl (.cons .here rfl .nil) rfl ?_
   refine va 2 rfl (Val.load_one rfl (.head _) ty_28 rfl) rfl rfl rfl (.cons .here rfl .nil) rfl ?_
   refine va 3 rfl (Val.pure rfl) rfl rfl rfl (.cons .here rfl .nil) rfl ?_
   refine va 4 rfl (Val.indexAddr_slp rfl rfl sl_28 (by omega) (by omega) (Sl.ptrM hC.loans hk)) rfl rfl rfl (.cons .here rfl .nil) rfl ?_
   refine va 5 rfl (Val.load_gen rfl (fun w hm => Sl.loadX hC.loans (by decide) hm (by simp) ty_98 hk hy)) rfl rfl rfl (.cons .here rfl .nil) rfl ?_
   refine RunA.toB (by kernel_rfl) ?_
   refine RunB.one (i := 6) (by kernel_rfl) ?_
   refine RunI.callP rfl (isCall_func rfl ent_78) rfl rfl rfl (fun w hm => rloan11_calls c y hsl s1 w) (RunK.toB ?_)
   refine RunB.one (i := 7) (by kernel_rfl) ?_
   refine RunI.val rfl (Val.pure rfl) rfl rfl rfl (RunK.toB ?_)
   refine RunB.done (by kernel_rfl) ?_
   refine st ?_
   refine cn rfl ?_ ?_
   ·intro c6'
    refine st ?_
    refine RunC.ret ?_
    refine RunE.block_ret ?_
    refine RunE.pass_ret ?_
    refine RunE.pass_ret ?_
    refine RunE.block_ret ?_
    refine RunE.pass_ret ?_
    exact RunE.retP (.r1 rfl (.tmp rfl)) (by unfold rcabX; rw [show c.pl.loans.all (rloanX c.pl) = false from all_no hk hy (by simpa using c6')]; simp)
   intro c6'
   refine st ?_
   refine lv (Val.add rfl rfl (IntWalk.i64_in _ ⟨by omega, by omega⟩)) ?_
   exact RunE.round (by omega) (take_all hk hy kI (by simpa using c6')) rfl (Sub.consE (t := 5) rfl rfl (Sub.cons (t := 1) rfl (Sub.nil _))) (.cons .here rfl .nil)
  intro c5'
  obtain rfl : k = c.loans.l.length := by omega
  rw [List.take_length] at kI
  refine RunC.exit ?_
  refine RunE.pass_exit ?_
  refine RunE.pass_exit ?_
  refine RunE.block_here ?_
  refine st ?_
  refine RunC.ret ?_
  exact RunE.retP (.r1 rfl (.tmp rfl)) (by unfold rcabX; rw [show c.pl.loans.all (rloanX c.pl) = true from kI, show rhomesX c.pl.homes c.pl.slots c.pl.homes.length = true from hro]; show Value.bool true = Value.bool (within c.slots 1 6 && decide (c.homes.l.length ≤ 5) && within c.wrong 0 12 && decide (c.loans.l.length ≤ 12) && true && true); obtain ⟨⟨q1, q2⟩, q3⟩ := c0'; rw [hwi, q2, decide_eq_true (show c.homes.l.length ≤ 5 by omega), decide_eq_true (show c.loans.l.length ≤ 12 by omega)]; rfl)
end Go.Proofs.YtleamcmljcdapaaGreatDoor
namespace Go.Proofs.YtleamcmljcdapaaGreatDoor
open Go Go.Eng
theorem ent_79 : Enters Tryz.prog 79 := enters_of Tryz.func79 (by kernel_rfl) rfl
theorem ent_80 : Enters Tryz.prog 80 := enters_of Tryz.func80 (by kernel_rfl) rfl
theorem ent_81 : Enters Tryz.prog 81 := enters_of Tryz.func81 (by kernel_rfl) rfl
end Go.Proofs.YtleamcmljcdapaaGreatDoor
namespace Go.Bk
open Go Go.Eng Go.RowKit
theorem any_step {α : Type} {l : List α} {k : Nat} {p : α → Bool} {x : α} (hk : k < l.length) (hx : l[k] = x) (h : (l.take k).any p = false) (h2 : p x = false) : (l.take (k + 1)).any p = false := by
  rw [List.take_succ_eq_append_getElem hk, List.any_append, h, hx]
  simp [h2]
theorem any_yes {α : Type} {l : List α} {k : Nat} {p : α → Bool} {x : α} (hk : k < l.length) (hx : l[k] = x) (h2 : p x = true) : l.any p = true :=
  List.any_eq_true.2 ⟨x, by rw [← hx]; exact List.getElem_mem hk, h2⟩
theorem sum_bd {l : List Int} {k : Nat} {x : Int} (hk : k < l.length) (hx : l[k] = x) (h : 0 ≤ (l.take k).sum ∧ (l.take k).sum ≤ 1000 * k) (h2 : within x 0 1000 = true) : 0 ≤ (l.take (k + 1)).sum ∧ (l.take (k + 1)).sum ≤ 1000 * (k + 1 : Nat) := by
  rw [sharing_step hk hx]
  simp only [within, Bool.and_eq_true, decide_eq_true_eq] at h2
  omega
theorem royal_r (r : RyA) : royalX r.pl = (decide (r.terms.l.length ≤ 4) && decide (r.paid.l.length = r.terms.l.length) && decide (r.prices.l.length ≤ 4) && decide (r.shares.l.length = r.prices.l.length) && decide (r.reports.l.length ≤ 20) &&
    !r.terms.l.any badTm && !(r.paid.l.any fun n => !within n 0 1099511627776) && !(r.prices.l.any fun n => !within n 0 1048576) && !(r.shares.l.any fun x => !sharingX x.l) && !r.reports.l.any (badRp r.pl)) := by
  unfold royalX
  have e : r.pl.shares.length = r.shares.l.length := by simp [RyA.pl]
  have e2 : (r.pl.shares.any fun l => !sharingX l) = r.shares.l.any fun x => !sharingX x.l := by
    show ((r.shares.l.map (·.l)).any fun l => !sharingX l) = _
    rw [any_map]
  rw [e, e2]
  rfl
end Go.Bk
namespace Go.Proofs.YtleamcmljcdapaaGreatDoor
open Go Go.Eng Go.Bk Go.RowKit

theorem rin12_calls (n lo hi : Int) (W : World) : Calls Tryz.prog 80 #[.int .i64 n, .int .i64 lo, .int .i64 hi] W (Pure (.bool (within n lo hi)) W) := by
  refine calls_start Tryz.func80 rfl rfl ?_
  refine st ?_
  refine RunL.andPart (dj := 10) (dp := 14) 4 rfl (fun g10 => by
    have g10' := g10
    try simp only [nH] at g10'
    refine sv ?_
    exact RunL.segEnd (Sub.cons rfl (Sub.skip rfl (Sub.skip rfl (Sub.skip rfl (Sub.skip rfl (Sub.same rfl (by rw [g10]) (Sub.refl _))))))) (List.Sublist.refl _)
  ) (fun g10 => by
    have g10' := g10
    try simp only [nH] at g10'
    iterate 3 refine RunL.no rfl rfl rfl ?_
    refine sv ?_
    exact RunL.segEnd (Sub.cons rfl (Sub.skip rfl (Sub.skip rfl (Sub.skip rfl (Sub.skip rfl (Sub.same rfl (by rw [g10]) (Sub.refl _))))))) (List.Sublist.refl _)
  ) ?_
  refine st ?_
  refine RunC.ret ?_
  exact RunE.retP (.r1 rfl (.tmp rfl)) (by first | rfl | simp)
theorem rTerm_calls (t : Tm) (W : World) : Calls Tryz.prog 79 #[.agg t.cells.toArray] W (Pure (.bool (!badTm t)) W) := by
  refine calls_start Tryz.func79 rfl rfl ?_
  refine st ?_
  refine RunL.new (New.box rfl) rfl rfl rfl (fun b1 => ?_)
  refine st ?_
  refine lv (Val.fieldAddr rfl fld_109_0) ?_
  refine lv (Val.load_one rfl (.head _) ty_3 rfl) ?_
  refine RunL.callP (isCall_func rfl ent_80) rfl rfl rfl (fun w hm => rin12_calls _ _ _ w) ?_
  refine st ?_
  refine RunL.andPart (dj := 6) (dp := 10) 4 rfl (fun g6 => by
    have g6' := g6
    try simp only [nH] at g6'
    refine lv (Val.fieldAddr rfl fld_109_2) ?_
    refine lv (Val.load_one rfl (.head _) ty_3 rfl) ?_
    refine RunL.callP (isCall_func rfl ent_80) rfl rfl rfl (fun w hm => rin12_calls _ _ _ w) ?_
    refine sv ?_
    exact RunL.segEnd (Sub.cons rfl (Sub.skip rfl (Sub.skip rfl (Sub.skip rfl (Sub.skip rfl (Sub.same rfl (by rw [g6]) (Sub.refl _))))))) (List.Sublist.refl _)
  ) (fun g6 => by
    have g6' := g6
    try simp only [nH] at g6'
    iterate 3 refine RunL.no rfl rfl rfl ?_
    refine sv ?_
    exact RunL.segEnd (Sub.cons rfl (Sub.skip rfl (Sub.skip rfl (Sub.skip rfl (Sub.skip rfl (Sub.same rfl (by rw [g6]) (Sub.refl _))))))) (List.Sublist.refl _)
  ) ?_
  refine st ?_
  refine RunL.andPart (dj := 11) (dp := 15) 4 rfl (fun g11 => by
    have g11' := g11
    try simp only [nH] at g11'
    refine lv (Val.fieldAddr rfl fld_109_1) ?_
    refine lv (Val.load_one rfl (.head _) ty_3 rfl) ?_
    refine RunL.callP (isCall_func rfl ent_80) rfl rfl rfl (fun w hm => rin12_calls _ _ _ w) ?_
    refine sv ?_
    exact RunL.segEnd (Sub.cons rfl (Sub.skip rfl (Sub.skip rfl (Sub.skip rfl (Sub.skip rfl (Sub.same rfl (by rw [g11]) (Sub.refl _))))))) (List.Sublist.refl _)
  ) (fun g11 => by
    have g11' := g11
    try simp only [nH] at g11'
    iterate 3 refine RunL.no rfl rfl rfl ?_
    refine sv ?_
    exact RunL.segEnd (Sub.cons rfl (Sub.skip rfl (Sub.skip rfl (Sub.skip rfl (Sub.skip rfl (Sub.same rfl (by rw [g11]) (Sub.refl _))))))) (List.Sublist.refl _)
  ) ?_
  refine st ?_
  refine RunC.ret ?_
  exact RunE.retP (.r1 rfl (.tmp rfl)) (by unfold badTm; simp)
theorem rSharing_calls (x : SA Int) (W : World) (hx : x.ok intC 1 W) (hl : x.l.length ≤ 10000) : Calls Tryz.prog 81 #[x.v] W (Pure (.bool (sharingX x.l)) W) := by
  refine calls_start Tryz.func81 rfl rfl ?_
  refine st ?_
  refine RunC.loopK (x.l.length) (fun k q => (4, .int .i64 (k : Int)) :: (3, .int .i64 ((x.l.take k).sum)) :: q) (fun _ => _) (fun _ => []) (fun k => (x.l.take k).all (fun n => within n 0 1000) = true ∧ 0 ≤ (x.l.take k).sum ∧ (x.l.take k).sum ≤ 1000 * k) (by simp) rfl (Sub.consE (t := 4) rfl rfl (Sub.consE (t := 3) rfl rfl (Sub.cons (t := 0) rfl (Sub.nil _)))) .nil ?_
  intro k kN kI
  refine st ?_
  refine lv (Val.len_sl rfl sl_27) ?_
  refine cn rfl ?_ ?_
  ·intro c0'
   have hk : k < x.l.length := by omega
   obtain ⟨y, hy⟩ : ∃ y, x.l[k] = y := ⟨_, rfl⟩
   refine st ?_
   refine lv (Val.indexAddr_slp rfl rfl sl_27 (by omega) (by omega) (Sl.ptrM hx hk)) ?_
   refine lv (Val.load_gen rfl (fun w hm => Sl.loadM1 hx (by decide) hm (by simp) ty_3 hk (v := .int .i64 y) (by simp [intC, hy]))) ?_
   refine RunL.callP (isCall_func rfl ent_80) rfl rfl rfl (fun w hm => rin12_calls _ _ _ w) ?_
   refine st ?_
   refine cn rfl ?_ ?_
   ·intro c1'
    refine st ?_
    refine RunC.ret ?_
    refine RunE.pass_ret ?_
    refine RunE.block_ret ?_
    refine RunE.pass_ret ?_
    refine RunE.pass_ret ?_
    refine RunE.block_ret ?_
    refine RunE.pass_ret ?_
    exact RunE.retP (.r1 rfl (.tmp rfl)) (by unfold sharingX; rw [all_no hk hy (by simpa using c1')]; rfl)
   intro c1'
   have hby : 0 ≤ y ∧ y ≤ 1000 := (by simpa [within] using c1')
   refine st ?_
   refine lv (Val.indexAddr_slp rfl rfl sl_27 (by omega) (by omega) (Sl.ptrM hx hk)) ?_
   refine lv (Val.load_gen rfl (fun w hm => Sl.loadM1 hx (by decide) hm (by simp) ty_3 hk (v := .int .i64 y) (by simp [intC, hy]))) ?_
   refine lv (Val.add rfl rfl (IntWalk.i64_in _ ⟨by omega, by omega⟩)) ?_
   refine lv (Val.add rfl rfl (IntWalk.i64_in _ ⟨by omega, by omega⟩)) ?_
   exact RunE.round (by omega) ⟨take_all hk hy kI.1 (by simpa using c1'), sum_bd hk hy kI.2 (by simpa using c1')⟩ rfl (Sub.consE (t := 4) rfl rfl (Sub.consE (t := 3) rfl (by rw [sharing_step hk hy]) (Sub.cons (t := 0) rfl (Sub.nil _)))) .nil
  intro c0'
  obtain rfl : k = x.l.length := by omega
  rw [List.take_length] at kI
  rw [List.take_length]
  refine RunC.exit ?_
  refine RunE.pass_exit ?_
  refine RunE.pass_exit ?_
  refine RunE.block_here ?_
  refine st ?_
  refine lv (Val.len_sl rfl sl_27) ?_
  refine RunL.callP (isCall_func rfl ent_80) rfl rfl rfl (fun w hm => rin12_calls _ _ _ w) ?_
  refine st ?_
  refine RunL.andPart (dj := 26) (dp := 29) 3 rfl (fun g26 => by
    have g26' := g26
    try simp only [nH] at g26'
    refine sv ?_
    exact RunL.segEnd (Sub.cons rfl (Sub.skip rfl (Sub.skip rfl (Sub.skip rfl (Sub.same rfl (by rw [g26]) (Sub.refl _)))))) (List.Sublist.refl _)
  ) (fun g26 => by
    have g26' := g26
    try simp only [nH] at g26'
    refine RunL.no rfl rfl rfl ?_
    refine RunL.no rfl rfl rfl ?_
    refine sv ?_
    exact RunL.segEnd (Sub.cons rfl (Sub.skip rfl (Sub.skip rfl (Sub.skip rfl (Sub.same rfl (by rw [g26]) (Sub.refl _)))))) (List.Sublist.refl _)
  ) ?_
  refine st ?_
  refine RunC.ret ?_
  exact RunE.retP (.r1 rfl (.tmp rfl)) (by unfold sharingX; rw [kI.1]; rfl)
set_option maxHeartbeats 1000000 in
theorem rRoyal_calls (r : RyA) (hs : RySm r) (W : World) (hR : RyOk W r) : Calls Tryz.prog 35 #[r.v] W (Pure (.bool (royalX r.pl)) W) := by
  rw [royal_r]
  obtain ⟨s1, s2, s3, s4, s5, s6⟩ := hs
  refine calls_start Tryz.func35 rfl rfl ?_
  refine st ?_
  refine RunL.new (New.box rfl) rfl rfl rfl (fun b1 => ?_)
  refine st ?_
  refine lv (Val.fieldAddr rfl fld_35_0) ?_
  refine lv (Val.load_one rfl (.head _) ty_31 rfl) ?_
  refine lv (Val.len_sl rfl sl_31) ?_
  refine RunL.orPart (dj := 11) (dp := 16) 5 rfl (fun g11 => by
    have g11' := g11
    try simp only [nH] at g11'
    refine lv (Val.fieldAddr rfl fld_35_1) ?_
    refine lv (Val.load_one rfl (.head _) ty_27 rfl) ?_
    refine RunL.val (Val.len_sl rfl sl_27) rfl rfl rfl ?_
    refine sv ?_
    exact RunL.segEnd (Sub.cons rfl (Sub.skip rfl (Sub.skip rfl (Sub.skip rfl (Sub.skip rfl (Sub.skip rfl (Sub.same rfl (by rw [g11]) (Sub.refl _)))))))) (List.Sublist.refl _)
  ) (fun g11 => by
    have g11' := g11
    try simp only [nH] at g11'
    iterate 4 refine RunL.no rfl rfl rfl ?_
    refine sv ?_
    exact RunL.segEnd (Sub.cons rfl (Sub.skip rfl (Sub.skip rfl (Sub.skip rfl (Sub.skip rfl (Sub.skip rfl (Sub.same rfl (by rw [g11]) (Sub.refl _)))))))) (List.Sublist.refl _)
  ) ?_
  refine st ?_
  refine RunL.orPart (dj := 17) (dp := 25) 8 rfl (fun g17 => by
    have g17' := g17
    try simp only [nH] at g17'
    refine lv (Val.fieldAddr rfl fld_35_2) ?_
    refine lv (Val.load_one rfl (.head _) ty_32 rfl) ?_
    refine lv (Val.len_sl rfl sl_32) ?_
    refine lv (Val.fieldAddr rfl fld_35_1) ?_
    refine lv (Val.load_one rfl (.head _) ty_27 rfl) ?_
    refine RunL.val (Val.len_sl rfl sl_27) rfl rfl rfl ?_
    refine sv ?_
    exact RunL.segEnd (Sub.cons rfl (Sub.skip rfl (Sub.skip rfl (Sub.skip rfl (Sub.skip rfl (Sub.skip rfl (Sub.skip rfl (Sub.skip rfl (Sub.skip rfl (Sub.same rfl (by rw [g17]) (Sub.refl _))))))))))) (List.Sublist.refl _)
  ) (fun g17 => by
    have g17' := g17
    try simp only [nH] at g17'
    iterate 7 refine RunL.no rfl rfl rfl ?_
    refine sv ?_
    exact RunL.segEnd (Sub.cons rfl (Sub.skip rfl (Sub.skip rfl (Sub.skip rfl (Sub.skip rfl (Sub.skip rfl (Sub.skip rfl (Sub.skip rfl (Sub.skip rfl (Sub.same rfl (by rw [g17]) (Sub.refl _))))))))))) (List.Sublist.refl _)
  ) ?_
  refine st ?_
  refine RunL.orPart (dj := 26) (dp := 31) 5 rfl (fun g26 => by
    have g26' := g26
    try simp only [nH] at g26'
    refine lv (Val.fieldAddr rfl fld_35_3) ?_
    refine lv (Val.load_one rfl (.head _) ty_33 rfl) ?_
    refine RunL.val (Val.len_sl rfl sl_33) rfl rfl rfl ?_
    refine sv ?_
    exact RunL.segEnd (Sub.cons rfl (Sub.skip rfl (Sub.skip rfl (Sub.skip rfl (Sub.skip rfl (Sub.skip rfl (Sub.same rfl (by rw [g26]) (Sub.refl _)))))))) (List.Sublist.refl _)
  ) (fun g26 => by
    have g26' := g26
    try simp only [nH] at g26'
    iterate 4 refine RunL.no rfl rfl rfl ?_
    refine sv ?_
    exact RunL.segEnd (Sub.cons rfl (Sub.skip rfl (Sub.skip rfl (Sub.skip rfl (Sub.skip rfl (Sub.skip rfl (Sub.same rfl (by rw [g26]) (Sub.refl _)))))))) (List.Sublist.refl _)
  ) ?_
  refine st ?_
  refine RunL.orPart (dj := 32) (dp := 40) 8 rfl (fun g32 => by
    have g32' := g32
    try simp only [nH] at g32'
    refine lv (Val.fieldAddr rfl fld_35_4) ?_
    refine lv (Val.load_one rfl (.head _) ty_27 rfl) ?_
    refine lv (Val.len_sl rfl sl_27) ?_
    refine lv (Val.fieldAddr rfl fld_35_0) ?_
    refine lv (Val.load_one rfl (.head _) ty_31 rfl) ?_
    refine RunL.val (Val.len_sl rfl sl_31) rfl rfl rfl ?_
    refine sv ?_
    exact RunL.segEnd (Sub.cons rfl (Sub.skip rfl (Sub.skip rfl (Sub.skip rfl (Sub.skip rfl (Sub.skip rfl (Sub.skip rfl (Sub.skip rfl (Sub.skip rfl (Sub.same rfl (by rw [g32]) (Sub.refl _))))))))))) (List.Sublist.refl _)
  ) (fun g32 => by
    have g32' := g32
    try simp only [nH] at g32'
    iterate 7 refine RunL.no rfl rfl rfl ?_
    refine sv ?_
    exact RunL.segEnd (Sub.cons rfl (Sub.skip rfl (Sub.skip rfl (Sub.skip rfl (Sub.skip rfl (Sub.skip rfl (Sub.skip rfl (Sub.skip rfl (Sub.skip rfl (Sub.same rfl (by rw [g32]) (Sub.refl _))))))))))) (List.Sublist.refl _)
  ) ?_
  refine st ?_
  refine cn rfl ?_ ?_
  ·intro c0'
   refine st ?_
   refine RunC.ret ?_
   refine RunE.pass_ret ?_
   exact RunE.retP (.r1 rfl (.tmp rfl)) (by congr 1; symm; simp only [Bool.and_eq_false_iff, decide_eq_false_iff_not]; omega)
  intro c0'
  have hpl : r.paid.l.length = r.terms.l.length := by omega
  have hsl : r.shares.l.length = r.prices.l.length := by omega
  refine st ?_
  refine RunC.loopK (r.terms.l.length) (fun k q => (3, .int .i64 (k : Int)) :: q) (fun _ => _) (fun _ => []) (fun k => (r.terms.l.take k).any badTm = false ∧ (r.paid.l.take k).any (fun n => !within n 0 1099511627776) = false) (by simp) rfl (Sub.consE (t := 3) rfl rfl (Sub.cons (t := 1) rfl (Sub.nil _))) (.cons .here rfl .nil) ?_
  intro k kN kI
  refine st ?_
  refine lv (Val.fieldAddr rfl fld_35_0) ?_
  refine lv (Val.load_one rfl (.head _) ty_31 rfl) ?_
  refine lv (Val.len_sl rfl sl_31) ?_
  refine cn rfl ?_ ?_
  ·intro c1'
   have hk : k < r.terms.l.length := by omega
   have hk2 : k < r.paid.l.length := by omega
   obtain ⟨y, hy⟩ : ∃ y, r.terms.l[k] = y := ⟨_, rfl⟩
   obtain ⟨z, hz⟩ : ∃ z, r.paid.l[k] = z := ⟨_, rfl⟩
   refine st ?_
   refine lv (Val.fieldAddr rfl fld_35_0) ?_
   refine lv (Val.load_one rfl (.head _) ty_31 rfl) ?_
   refine lv (Val.indexAddr_slp rfl rfl sl_31 (by omega) (by omega) (Sl.ptrM hR.terms hk)) ?_
   refine lv (Val.load_gen rfl (fun w hm => Sl.loadX hR.terms (by decide) hm (by simp) ty_109 hk hy)) ?_
   refine RunL.callP (isCall_func rfl ent_79) rfl rfl rfl (fun w hm => rTerm_calls y w) ?_
   refine st ?_
   refine RunL.orPart (dj := 55) (dp := 63) 8 rfl (fun g55 => by
     have g55' := g55
     try simp only [nH] at g55'
     refine lv (Val.fieldAddr rfl fld_35_4) ?_
     refine lv (Val.load_one rfl (.head _) ty_27 rfl) ?_
     refine lv (Val.indexAddr_slp rfl rfl sl_27 (by omega) (by omega) (Sl.ptrM hR.paid hk2)) ?_
     refine lv (Val.load_gen rfl (fun w hm => Sl.loadM1 hR.paid (by decide) hm (by simp) ty_3 hk2 (v := .int .i64 z) (by simp [intC, hz]))) ?_
     refine RunL.callP (isCall_func rfl ent_80) rfl rfl rfl (fun w hm => rin12_calls _ _ _ w) ?_
     refine sv ?_
     exact RunL.segEnd (Sub.cons rfl (Sub.skip rfl (Sub.skip rfl (Sub.skip rfl (Sub.skip rfl (Sub.skip rfl (Sub.skip rfl (Sub.skip rfl (Sub.skip rfl (Sub.same rfl (by rw [g55]) (Sub.refl _))))))))))) (List.Sublist.refl _)
   ) (fun g55 => by
     have g55' := g55
     try simp only [nH] at g55'
     iterate 7 refine RunL.no rfl rfl rfl ?_
     refine sv ?_
     exact RunL.segEnd (Sub.cons rfl (Sub.skip rfl (Sub.skip rfl (Sub.skip rfl (Sub.skip rfl (Sub.skip rfl (Sub.skip rfl (Sub.skip rfl (Sub.skip rfl (Sub.same rfl (by rw [g55]) (Sub.refl _))))))))))) (List.Sublist.refl _)
   ) ?_
   refine st ?_
   refine cn rfl ?_ ?_
   ·intro c2'
    refine st ?_
    refine RunC.ret ?_
    refine RunE.block_ret ?_
    refine RunE.pass_ret ?_
    refine RunE.pass_ret ?_
    refine RunE.block_ret ?_
    refine RunE.pass_ret ?_
    exact RunE.retP (.r1 rfl (.tmp rfl)) (by rcases c2' with h | h; rw [any_yes hk hy (by simpa using h)]; simp; rw [any_yes hk2 hz (by simpa using h)]; simp)
   intro c2'
   refine st ?_
   refine lv (Val.add rfl rfl (IntWalk.i64_in _ ⟨by omega, by omega⟩)) ?_
   exact RunE.round (by omega) ⟨any_step hk hy kI.1 (by simpa using c2'.1), any_step hk2 hz kI.2 (by simpa using c2'.2)⟩ rfl (Sub.consE (t := 3) rfl rfl (Sub.cons (t := 1) rfl (Sub.nil _))) (.cons .here rfl .nil)
  intro c1'
  obtain rfl : k = r.terms.l.length := by omega
  have hA1 := kI.1
  have hA2 := kI.2
  rw [List.take_length] at hA1
  rw [← hpl, List.take_length] at hA2
  clear kI
  refine RunC.exit ?_
  refine RunE.pass_exit ?_
  refine RunE.pass_exit ?_
  refine RunE.block_here ?_
  refine st ?_
  refine RunC.loopK (r.prices.l.length) (fun k q => (4, .int .i64 (k : Int)) :: q) (fun _ => _) (fun _ => []) (fun k => (r.prices.l.take k).any (fun n => !within n 0 1048576) = false ∧ (r.shares.l.take k).any (fun x => !sharingX x.l) = false) (by simp) rfl (Sub.consE (t := 4) rfl rfl (Sub.cons (t := 1) rfl (Sub.nil _))) (.cons .here rfl .nil) ?_
  intro k kN kI
  refine st ?_
  refine lv (Val.fieldAddr rfl fld_35_1) ?_
  refine lv (Val.load_one rfl (.head _) ty_27 rfl) ?_
  refine lv (Val.len_sl rfl sl_27) ?_
  refine cn rfl ?_ ?_
  ·intro c3'
   have hk : k < r.prices.l.length := by omega
   have hk2 : k < r.shares.l.length := by omega
   obtain ⟨y, hy⟩ : ∃ y, r.prices.l[k] = y := ⟨_, rfl⟩
   obtain ⟨z, hz⟩ : ∃ z, r.shares.l[k] = z := ⟨_, rfl⟩
   have hzm : z ∈ r.shares.l := hz ▸ List.getElem_mem hk2
   refine st ?_
   refine lv (Val.fieldAddr rfl fld_35_1) ?_
   refine lv (Val.load_one rfl (.head _) ty_27 rfl) ?_
   refine lv (Val.indexAddr_slp rfl rfl sl_27 (by omega) (by omega) (Sl.ptrM hR.prices hk)) ?_
   refine lv (Val.load_gen rfl (fun w hm => Sl.loadM1 hR.prices (by decide) hm (by simp) ty_3 hk (v := .int .i64 y) (by simp [intC, hy]))) ?_
   refine RunL.callP (isCall_func rfl ent_80) rfl rfl rfl (fun w hm => rin12_calls _ _ _ w) ?_
   refine st ?_
   refine RunL.orPart (dj := 78) (dp := 86) 8 rfl (fun g78 => by
     have g78' := g78
     try simp only [nH] at g78'
     refine lv (Val.fieldAddr rfl fld_35_2) ?_
     refine lv (Val.load_one rfl (.head _) ty_32 rfl) ?_
     refine lv (Val.indexAddr_slp rfl rfl sl_32 (by omega) (by omega) (Sl.ptrM hR.shares hk2)) ?_
     refine lv (Val.load_gen rfl (fun w hm => Sl.loadM1 hR.shares (by decide) hm (by simp) ty_27 hk2 (v := z.v) (by simp [SA.cell, hz]))) ?_
     refine RunL.callP (isCall_func rfl ent_81) rfl rfl rfl (fun w hm => rSharing_calls z w ((hR.rows z hzm).mono0 (by decide) hm) (s4 z hzm)) ?_
     refine sv ?_
     exact RunL.segEnd (Sub.cons rfl (Sub.skip rfl (Sub.skip rfl (Sub.skip rfl (Sub.skip rfl (Sub.skip rfl (Sub.skip rfl (Sub.skip rfl (Sub.skip rfl (Sub.same rfl (by rw [g78]) (Sub.refl _))))))))))) (List.Sublist.refl _)
   ) (fun g78 => by
     have g78' := g78
     try simp only [nH] at g78'
     iterate 7 refine RunL.no rfl rfl rfl ?_
     refine sv ?_
     exact RunL.segEnd (Sub.cons rfl (Sub.skip rfl (Sub.skip rfl (Sub.skip rfl (Sub.skip rfl (Sub.skip rfl (Sub.skip rfl (Sub.skip rfl (Sub.skip rfl (Sub.same rfl (by rw [g78]) (Sub.refl _))))))))))) (List.Sublist.refl _)
   ) ?_
   refine st ?_
   refine cn rfl ?_ ?_
   ·intro c4'
    refine st ?_
    refine RunC.ret ?_
    refine RunE.block_ret ?_
    refine RunE.pass_ret ?_
    refine RunE.pass_ret ?_
    refine RunE.block_ret ?_
    refine RunE.pass_ret ?_
    exact RunE.retP (.r1 rfl (.tmp rfl)) (by rcases c4' with h | h; rw [any_yes hk hy (by simpa using h)]; simp; rw [any_yes hk2 hz (by simpa using h)]; simp)
   intro c4'
   refine st ?_
   refine lv (Val.add rfl rfl (IntWalk.i64_in _ ⟨by omega, by omega⟩)) ?_
   exact RunE.round (by omega) ⟨any_step hk hy kI.1 (by simpa using c4'.1), any_step hk2 hz kI.2 (by simpa using c4'.2)⟩ rfl (Sub.consE (t := 4) rfl rfl (Sub.cons (t := 1) rfl (Sub.nil _))) (.cons .here rfl .nil)
  intro c3'
  obtain rfl : k = r.prices.l.length := by omega
  have hB1 := kI.1
  have hB2 := kI.2
  rw [List.take_length] at hB1
  rw [← hsl, List.take_length] at hB2
  clear kI
  refine RunC.exit ?_
  refine RunE.pass_exit ?_
  refine RunE.pass_exit ?_
  refine RunE.block_here ?_
  refine st ?_
  refine RunC.loopK (r.reports.l.length) (fun k q => (5, .int .i64 (k : Int)) :: q) (fun _ => _) (fun _ => []) (fun k => (r.reports.l.take k).any (badRp r.pl) = false) (by simp) rfl (Sub.consE (t := 5) rfl rfl (Sub.cons (t := 1) rfl (Sub.nil _))) (.cons .here rfl .nil) ?_
  intro k kN kI
  refine st ?_
  refine lv (Val.fieldAddr rfl fld_35_3) ?_
  refine lv (Val.load_one rfl (.head _) ty_33 rfl) ?_
  refine lv (Val.len_sl rfl sl_33) ?_
  refine cn rfl ?_ ?_
  ·intro c5'
   have hk : k < r.reports.l.length := by omega
   obtain ⟨y, hy⟩ : ∃ y, r.reports.l[k] = y := ⟨_, rfl⟩
   refine st ?_
   refine lv (Val.fieldAddr rfl fld_35_3) ?_
   refine lv (Val.load_one rfl (.head _) ty_33 rfl) ?_
   refine lv (Val.indexAddr_slp rfl rfl sl_33 (by omega) (by omega) (Sl.ptrM hR.reports hk)) ?_
   refine lv (Val.load_gen rfl (fun w hm => Sl.loadX hR.reports (by decide) hm (by simp) ty_111 hk hy)) ?_
   refine RunL.new (New.alloc zero_111) rfl rfl rfl (fun b6 => ?_)
   refine RunL.sto (Sto.store rfl rfl .here ty_111 rfl rfl) rfl rfl ?_
   refine st ?_
   refine lv (Val.fieldAddr rfl fld_111_0) ?_
   refine lv (Val.load_one rfl (.head _) ty_3 rfl) ?_
   refine lv (Val.fieldAddr rfl fld_35_0) ?_
   refine lv (Val.load_one rfl (.tail _ (.head _)) ty_31 rfl) ?_
   refine lv (Val.len_sl rfl sl_31) ?_
   refine lv (Val.sub' rfl rfl (IntWalk.i64_in _ ⟨by omega, by omega⟩)) ?_
   refine RunL.callP (isCall_func rfl ent_80) rfl rfl rfl (fun w hm => rin12_calls _ _ _ w) ?_
   refine st ?_
   refine RunL.orPart (dj := 107) (dp := 116) 9 rfl (fun g107 => by
     have g107' := g107
     try simp only [nH] at g107'
     refine lv (Val.fieldAddr rfl fld_111_1) ?_
     refine lv (Val.load_one rfl (.head _) ty_3 rfl) ?_
     refine lv (Val.fieldAddr rfl fld_35_1) ?_
     refine lv (Val.load_one rfl (.tail _ (.head _)) ty_27 rfl) ?_
     refine lv (Val.len_sl rfl sl_27) ?_
     refine lv (Val.sub' rfl rfl (IntWalk.i64_in _ ⟨by omega, by omega⟩)) ?_
     refine RunL.callP (isCall_func rfl ent_80) rfl rfl rfl (fun w hm => rin12_calls _ _ _ w) ?_
     refine sv ?_
     exact RunL.segEnd (Sub.cons rfl (Sub.skip rfl (Sub.skip rfl (Sub.skip rfl (Sub.skip rfl (Sub.skip rfl (Sub.skip rfl (Sub.skip rfl (Sub.skip rfl (Sub.skip rfl (Sub.same rfl (by rw [g107]) (Sub.refl _)))))))))))) (List.Sublist.refl _)
   ) (fun g107 => by
     have g107' := g107
     try simp only [nH] at g107'
     iterate 8 refine RunL.no rfl rfl rfl ?_
     refine sv ?_
     exact RunL.segEnd (Sub.cons rfl (Sub.skip rfl (Sub.skip rfl (Sub.skip rfl (Sub.skip rfl (Sub.skip rfl (Sub.skip rfl (Sub.skip rfl (Sub.skip rfl (Sub.skip rfl (Sub.same rfl (by rw [g107]) (Sub.refl _)))))))))))) (List.Sublist.refl _)
   ) ?_
   refine st ?_
   refine RunL.orPart (dj := 117) (dp := 124) 7 rfl (fun g117 => by
     have g117' := g117
     try simp only [nH] at g117'
     refine lv (Val.fieldAddr rfl fld_111_2) ?_
     refine lv (Val.load_one rfl (.head _) ty_3 rfl) ?_
     refine lv (Val.fieldAddr rfl fld_111_3) ?_
     refine lv (Val.load_one rfl (.head _) ty_3 rfl) ?_
     refine RunL.callP (isCall_func rfl ent_80) rfl rfl rfl (fun w hm => rin12_calls _ _ _ w) ?_
     refine sv ?_
     exact RunL.segEnd (Sub.cons rfl (Sub.skip rfl (Sub.skip rfl (Sub.skip rfl (Sub.skip rfl (Sub.skip rfl (Sub.skip rfl (Sub.skip rfl (Sub.same rfl (by rw [g117]) (Sub.refl _)))))))))) (List.Sublist.refl _)
   ) (fun g117 => by
     have g117' := g117
     try simp only [nH] at g117'
     iterate 6 refine RunL.no rfl rfl rfl ?_
     refine sv ?_
     exact RunL.segEnd (Sub.cons rfl (Sub.skip rfl (Sub.skip rfl (Sub.skip rfl (Sub.skip rfl (Sub.skip rfl (Sub.skip rfl (Sub.skip rfl (Sub.same rfl (by rw [g117]) (Sub.refl _)))))))))) (List.Sublist.refl _)
   ) ?_
   refine st ?_
   refine RunL.orPart (dj := 125) (dp := 129) 4 rfl (fun g125 => by
     have g125' := g125
     try simp only [nH] at g125'
     refine lv (Val.fieldAddr rfl fld_111_3) ?_
     refine RunL.val (Val.load_one rfl (.head _) ty_3 rfl) rfl rfl rfl ?_
     refine sv ?_
     exact RunL.segEnd (Sub.cons rfl (Sub.skip rfl (Sub.skip rfl (Sub.skip rfl (Sub.skip rfl (Sub.same rfl (by rw [g125]) (Sub.refl _))))))) (List.Sublist.refl _)
   ) (fun g125 => by
     have g125' := g125
     try simp only [nH] at g125'
     iterate 3 refine RunL.no rfl rfl rfl ?_
     refine sv ?_
     exact RunL.segEnd (Sub.cons rfl (Sub.skip rfl (Sub.skip rfl (Sub.skip rfl (Sub.skip rfl (Sub.same rfl (by rw [g125]) (Sub.refl _))))))) (List.Sublist.refl _)
   ) ?_
   refine st ?_
   refine cn rfl ?_ ?_
   ·intro c6'
    refine st ?_
    refine RunC.ret ?_
    refine RunE.block_ret ?_
    refine RunE.pass_ret ?_
    refine RunE.pass_ret ?_
    refine RunE.block_ret ?_
    refine RunE.pass_ret ?_
    exact RunE.retP (.r1 rfl (.tmp rfl)) (by rw [any_yes (p := badRp r.pl) hk hy (by unfold badRp; show (!within y.agent 0 ((r.terms.l.length : Int) - 1) || !within y.kind 0 ((r.prices.l.length : Int) - 1) || decide (y.first < 0) || decide (y.last < y.first) || decide (12 ≤ y.last)) = true; simp only [within, Bool.and_eq_true, Bool.and_eq_false_iff, decide_eq_true_eq, decide_eq_false_iff_not, Bool.or_eq_true, Bool.not_eq_true'] at c6' ⊢; omega)]; simp)
   intro c6'
   refine st ?_
   refine lv (Val.add rfl rfl (IntWalk.i64_in _ ⟨by omega, by omega⟩)) ?_
   exact RunE.round (by omega) (any_step hk hy kI (by unfold badRp; show (!within y.agent 0 ((r.terms.l.length : Int) - 1) || !within y.kind 0 ((r.prices.l.length : Int) - 1) || decide (y.first < 0) || decide (y.last < y.first) || decide (12 ≤ y.last)) = false; simp only [within, Bool.and_eq_true, decide_eq_true_eq] at c6' ⊢; simp; omega)) rfl (Sub.consE (t := 5) rfl rfl (Sub.cons (t := 1) rfl (Sub.nil _))) (.cons (.there .here) rfl .nil)
  intro c5'
  obtain rfl : k = r.reports.l.length := by omega
  rw [List.take_length] at kI
  refine RunC.exit ?_
  refine RunE.pass_exit ?_
  refine RunE.pass_exit ?_
  refine RunE.block_here ?_
  refine st ?_
  refine RunC.ret ?_
  exact RunE.retP (.r1 rfl (.tmp rfl)) (by rw [hA1, hA2, hB1, hB2, kI, decide_eq_true hpl, decide_eq_true hsl, decide_eq_true (show r.terms.l.length ≤ 4 by omega), decide_eq_true (show r.prices.l.length ≤ 4 by omega), decide_eq_true (show r.reports.l.length ≤ 20 by omega)]; rfl)
end Go.Proofs.YtleamcmljcdapaaGreatDoor
namespace Go.Bk
open Go Go.Eng Go.RowKit
/-- The bytes that are written, if any. -/
def wpS (p : Ps) : Str := if printsX p = true then psS p else []
theorem wpS_ok {p : Ps} (h : printsX p = true) : wpS p = psS p := if_pos h
theorem wpS_no {p : Ps} (h : printsX p = false) : wpS p = [] := if_neg (by simp [h])
abbrev wpE (p : Ps) : Int := if printsX p = true then 0 else 1
end Go.Bk
namespace Go.Proofs.YtleamcmljcdapaaGreatDoor
open Go Go.Eng Go.Bk Go.RowKit

theorem writePrints_any (p : PsA) (hl : p.cards.l.length ≤ 10000) (W : World) (hP : p.cards.ok Pt.cells 5 W) : Calls Tryz.prog 25 #[p.v] W (News (fun z : { y : Eng.Own // OwnOk 1 y (wpS p.pl).length (byc (wpS p.pl)) } => .tuple #[ownV z.1 (wpS p.pl).length, .int .i64 (wpE p.pl)]) (fun z => ownB 5 z.1 (byc (wpS p.pl)) ++ []) W) := by
  suffices h1 : Calls Tryz.prog 25 #[p.v] W (Grow W [] (fun y : Eng.Own => .tuple #[ownV y (wpS p.pl).length, .int .i64 (wpE p.pl)]) (fun y => ownB 5 y (byc (wpS p.pl)) ++ []) (fun y => OwnOk 1 y (wpS p.pl).length (byc (wpS p.pl)))) from grow_news h1
  cases h : printsX p.pl with
  | true =>
    have e : wpE p.pl = 0 := if_pos h
    rw [e, wpS_ok h]
    exact writePrints_ok p W hP h
  | false =>
    have e : wpE p.pl = 1 := if_neg (by simp [h])
    rw [e, wpS_no h]
    refine calls_mono (writePrints_no p hl W hP h) ?_
    rintro e w' ⟨rfl, hm⟩
    exact ⟨none, ol_nil (α := UInt8) (f := byC) (sz := 1), rfl, hm⟩
end Go.Proofs.YtleamcmljcdapaaGreatDoor
namespace Go.Bk
open Go Go.Eng Go.RowKit
abbrev iSh : Sh := .int .i64
abbrev spSh : Sh := .st [iSh, iSh]
abbrev lnSh : Sh := .st [iSh, iSh, iSh, iSh]
abbrev tmSh : Sh := .st [iSh, iSh, iSh]
abbrev ptSh : Sh := .st [spSh, spSh, iSh]
abbrev trSh : Sh := .st [iSh, .sl spSh, .sl (.sl spSh), .sl spSh, .sl spSh]
abbrev cbSh : Sh := .st [iSh, .sl iSh, iSh, .sl lnSh]
abbrev rySh : Sh := .st [.sl tmSh, .sl iSh, .sl (.sl iSh), .sl lnSh, .sl iSh]
abbrev psSh : Sh := .st [.sl ptSh, spSh, spSh]
theorem rd_cons {w : World} {s : Sh} {l : List Sh} {cs : List Value} (h : Rd w (.st (s :: l)) cs) : ∃ a b, cs = a ++ b ∧ Rd w s a ∧ Rd w (.st l) b := by
  cases h with
  | recS h1 h2 => exact ⟨_, _, rfl, h1, h2⟩
theorem rd_nil {w : World} {cs : List Value} (h : Rd w (.st []) cs) : cs = [] := by cases h; rfl
theorem rd_int {w : World} {cs : List Value} (h : Rd w iSh cs) : ∃ n : Int, cs = [.int .i64 n] ∧ True := by cases h; exact ⟨_, rfl, trivial⟩
theorem rd_sp {w : World} {cs : List Value} (h : Rd w spSh cs) : ∃ s : Sp, cs = s.cells ∧ True := by
  obtain ⟨a, b, rfl, h1, h⟩ := rd_cons h
  obtain ⟨c, d, rfl, h2, h⟩ := rd_cons h
  obtain rfl := rd_nil h
  obtain ⟨n, rfl, _⟩ := rd_int h1
  obtain ⟨m, rfl, _⟩ := rd_int h2
  exact ⟨⟨n, m⟩, rfl, trivial⟩
theorem rd_tm {w : World} {cs : List Value} (h : Rd w tmSh cs) : ∃ s : Tm, cs = s.cells ∧ True := by
  obtain ⟨a, b, rfl, h1, h⟩ := rd_cons h
  obtain ⟨c, d, rfl, h2, h⟩ := rd_cons h
  obtain ⟨e, f, rfl, h3, h⟩ := rd_cons h
  obtain rfl := rd_nil h
  obtain ⟨n, rfl, _⟩ := rd_int h1
  obtain ⟨m, rfl, _⟩ := rd_int h2
  obtain ⟨k, rfl, _⟩ := rd_int h3
  exact ⟨⟨n, m, k⟩, rfl, trivial⟩
theorem rd_four {w : World} {cs : List Value} (h : Rd w lnSh cs) : ∃ a b c d : Int, cs = [.int .i64 a, .int .i64 b, .int .i64 c, .int .i64 d] := by
  obtain ⟨a, b, rfl, h1, h⟩ := rd_cons h
  obtain ⟨c, d, rfl, h2, h⟩ := rd_cons h
  obtain ⟨e, f, rfl, h3, h⟩ := rd_cons h
  obtain ⟨i, j, rfl, h4, h⟩ := rd_cons h
  obtain rfl := rd_nil h
  obtain ⟨n, rfl, _⟩ := rd_int h1
  obtain ⟨m, rfl, _⟩ := rd_int h2
  obtain ⟨k, rfl, _⟩ := rd_int h3
  obtain ⟨l, rfl, _⟩ := rd_int h4
  exact ⟨n, m, k, l, rfl⟩
theorem rd_ln {w : World} {cs : List Value} (h : Rd w lnSh cs) : ∃ s : Ln, cs = s.cells ∧ True := by
  obtain ⟨a, b, c, d, rfl⟩ := rd_four h
  exact ⟨⟨a, b, c, d⟩, rfl, trivial⟩
theorem rd_rp {w : World} {cs : List Value} (h : Rd w lnSh cs) : ∃ s : Rp, cs = s.cells ∧ True := by
  obtain ⟨a, b, c, d, rfl⟩ := rd_four h
  exact ⟨⟨a, b, c, d⟩, rfl, trivial⟩
theorem rd_pt {w : World} {cs : List Value} (h : Rd w ptSh cs) : ∃ s : Pt, cs = s.cells ∧ True := by
  obtain ⟨a, b, rfl, h1, h⟩ := rd_cons h
  obtain ⟨c, d, rfl, h2, h⟩ := rd_cons h
  obtain ⟨e, f, rfl, h3, h⟩ := rd_cons h
  obtain rfl := rd_nil h
  obtain ⟨n, rfl, _⟩ := rd_sp h1
  obtain ⟨m, rfl, _⟩ := rd_sp h2
  obtain ⟨k, rfl, _⟩ := rd_int h3
  exact ⟨⟨n, m, k⟩, rfl, trivial⟩
theorem rowsH_of {α : Type} {f : α → List Value} {p : α → Prop} : ∀ {xs : List (List Value)}, (∀ x ∈ xs, ∃ a, x = f a ∧ p a) → ∃ l : List α, xs = l.map f ∧ ∀ a ∈ l, p a
  | [], _ => ⟨[], rfl, fun a h => by cases h⟩
  | x :: xs, h => by
    obtain ⟨a, rfl, ha⟩ := h x (by simp)
    obtain ⟨l, rfl, hl⟩ := rowsH_of (xs := xs) (fun y hy => h y (List.mem_cons_of_mem _ hy))
    exact ⟨a :: l, rfl, fun b hb => by rcases List.mem_cons.1 hb with rfl | hb; exact ha; exact hl b hb⟩
/-- What is known of a slice that comes in. -/
structure SaIn {α : Type} (f : α → List Value) (sz : Nat) (p : α → Prop) (w : World) (s : SA α) : Prop where
  ok : s.ok f sz w
  each : ∀ a ∈ s.l, p a
  cap : s.l.length ≤ s.c
  few : s.c ≤ maxLen
  nq : s.q = none → s.l.length = 0 ∧ s.c = 0
theorem rd_sa {α : Type} {f : α → List Value} {p : α → Prop} {w : World} {e : Sh} (hx : ∀ {x}, Rd w e x → ∃ a, x = f a ∧ p a) {cs : List Value} (h : Rd w (.sl e) cs) : ∃ s : SA α, cs = [s.v] ∧ SaIn f e.size p w s := by
  cases h with
  | slNil => exact ⟨⟨[], none, 0, 0, 0⟩, rfl, ⟨Sl.emp, (fun a h => by cases h), Nat.le_refl _, Nat.zero_le _, fun _ => ⟨rfl, rfl⟩⟩⟩
  | sl hs hl hc h =>
    obtain ⟨l, rfl, hl2⟩ := rowsH_of (f := f) (p := p) (fun x hx' => hx (h x hx'))
    rw [List.length_map] at hl
    exact ⟨⟨l, some _, _, _, _⟩, by rw [List.length_map]; rfl, ⟨hs, hl2, hl, hc, fun h => by cases h⟩⟩
theorem rd_tr {w : World} {cs : List Value} (h : Rd w trSh cs) : ∃ t : TrA, cs = t.cells ∧ TrOk w t ∧ t.ways.l.length ≤ maxLen := by
  obtain ⟨_, _, rfl, h1, h⟩ := rd_cons h
  obtain ⟨_, _, rfl, h2, h⟩ := rd_cons h
  obtain ⟨_, _, rfl, h3, h⟩ := rd_cons h
  obtain ⟨_, _, rfl, h4, h⟩ := rd_cons h
  obtain ⟨_, _, rfl, h5, h⟩ := rd_cons h
  obtain rfl := rd_nil h
  obtain ⟨n, rfl, _⟩ := rd_int h1
  obtain ⟨a, rfl, ha⟩ := rd_sa rd_sp h2
  obtain ⟨b, rfl, hb⟩ := rd_sa (f := SA.cell) (p := fun s => SaIn Sp.cells 2 (fun _ => True) w s) (rd_sa rd_sp) h3
  obtain ⟨c, rfl, hc⟩ := rd_sa rd_sp h4
  obtain ⟨d, rfl, hd⟩ := rd_sa rd_sp h5
  exact ⟨⟨n, a, b, c, d⟩, rfl, ⟨ha.ok, hb.ok, fun x hx => (hb.each x hx).ok, hc.ok, hd.ok, hb.nq⟩, Nat.le_trans hb.cap hb.few⟩
theorem rd_cb {w : World} {cs : List Value} (h : Rd w cbSh cs) : ∃ t : CbA, cs = t.cells ∧ CbOk w t := by
  obtain ⟨_, _, rfl, h1, h⟩ := rd_cons h
  obtain ⟨_, _, rfl, h2, h⟩ := rd_cons h
  obtain ⟨_, _, rfl, h3, h⟩ := rd_cons h
  obtain ⟨_, _, rfl, h4, h⟩ := rd_cons h
  obtain rfl := rd_nil h
  obtain ⟨n, rfl, _⟩ := rd_int h1
  obtain ⟨a, rfl, ha⟩ := rd_sa (f := intC) rd_int h2
  obtain ⟨m, rfl, _⟩ := rd_int h3
  obtain ⟨b, rfl, hb⟩ := rd_sa rd_ln h4
  exact ⟨⟨n, a, m, b⟩, rfl, ⟨ha.ok, hb.ok⟩⟩
theorem rd_ry {w : World} {cs : List Value} (h : Rd w rySh cs) : ∃ t : RyA, cs = t.cells ∧ RyOk w t ∧ t.shares.l.length ≤ maxLen := by
  obtain ⟨_, _, rfl, h1, h⟩ := rd_cons h
  obtain ⟨_, _, rfl, h2, h⟩ := rd_cons h
  obtain ⟨_, _, rfl, h3, h⟩ := rd_cons h
  obtain ⟨_, _, rfl, h4, h⟩ := rd_cons h
  obtain ⟨_, _, rfl, h5, h⟩ := rd_cons h
  obtain rfl := rd_nil h
  obtain ⟨a, rfl, ha⟩ := rd_sa rd_tm h1
  obtain ⟨b, rfl, hb⟩ := rd_sa (f := intC) rd_int h2
  obtain ⟨c, rfl, hc⟩ := rd_sa (f := SA.cell) (p := fun s => SaIn intC 1 (fun _ => True) w s) (rd_sa (f := intC) rd_int) h3
  obtain ⟨d, rfl, hd⟩ := rd_sa rd_rp h4
  obtain ⟨e, rfl, he⟩ := rd_sa (f := intC) rd_int h5
  exact ⟨⟨a, b, c, d, e⟩, rfl, ⟨ha.ok, hb.ok, hc.ok, fun x hx => (hc.each x hx).ok, hd.ok, he.ok⟩, Nat.le_trans hc.cap hc.few⟩
theorem rd_ps {w : World} {cs : List Value} (h : Rd w psSh cs) : ∃ t : PsA, cs = t.cells ∧ SaIn Pt.cells 5 (fun _ => True) w t.cards := by
  obtain ⟨_, _, rfl, h1, h⟩ := rd_cons h
  obtain ⟨_, _, rfl, h2, h⟩ := rd_cons h
  obtain ⟨_, _, rfl, h3, h⟩ := rd_cons h
  obtain rfl := rd_nil h
  obtain ⟨a, rfl, ha⟩ := rd_sa rd_pt h1
  obtain ⟨b, rfl, _⟩ := rd_sp h2
  obtain ⟨c, rfl, _⟩ := rd_sp h3
  exact ⟨⟨a, b, c⟩, rfl, ha⟩
theorem Few.sm {t : TrA} {c : CbA} {r : RyA} {p : PsA} (h : Few t.pl c.pl r.pl p.pl) : TrSm t ∧ CbS c ∧ RySm r ∧ p.cards.l.length ≤ 10000 := by
  obtain ⟨h1, h2, h3, h4, h5, h6, h7, h8, h9, h10, h11, h12, h13, h14⟩ := h
  have e1 : t.pl.ways.length = t.ways.l.length := by simp [TrA.pl]
  have e2 : r.pl.shares.length = r.shares.l.length := by simp [RyA.pl]
  rw [e1] at h2
  rw [e2] at h12
  refine ⟨⟨Nat.le_trans h1 (by decide), Nat.le_trans h2 (by decide), fun x hx => Nat.le_trans (h3 x.l (List.mem_map.2 ⟨x, hx, rfl⟩)) (by decide), Nat.le_trans h4 (by decide), Nat.le_trans h5 (by decide)⟩, ⟨Nat.le_trans h6 (by decide), Nat.le_trans h7 (by decide)⟩,
    ⟨Nat.le_trans h9 (by decide), Nat.le_trans h11 (by decide), Nat.le_trans h12 (by decide), fun x hx => Nat.le_trans (h13 x.l (List.mem_map.2 ⟨x, hx, rfl⟩)) (by decide), Nat.le_trans h14 (by decide), Nat.le_trans h10 (by decide)⟩, Nat.le_trans h8 (by decide)⟩
theorem ite_one {b : Bool} (h : (if b = true then (0 : Int) else 1) = 0) : b = true := by cases b <;> simp_all
end Go.Bk
namespace Go.Bk
open Go Go.Eng Go.RowKit
theorem lineS_m {m : Nat} {ws : List Str} (h : ∀ x ∈ ws, x.length ≤ m) : (lineS ws).length ≤ ws.length * (m + 1) + 1 := by
  have h1 := join_le (sep := [32]) h
  unfold lineS
  rw [List.length_append]
  simp only [nl, List.length_singleton] at h1 ⊢
  omega
theorem rowS_m {w : Str} {l : List Sp} (hw : w.length ≤ 42) (hl : l.length ≤ 6) (h : ∀ s ∈ l, In64 s.lo ∧ In64 s.hi) : (rowS w l).length ≤ 302 := by
  have h1 := lineS_m (m := 42) (ws := w :: l.map spS) (fun x hx => by
    rcases List.mem_cons.1 hx with rfl | hx
    · exact hw
    · obtain ⟨s, hs, rfl⟩ := List.mem_map.1 hx
      exact spS_len (h s hs))
  simp only [List.length_cons, List.length_map] at h1
  unfold rowS
  omega
theorem tour_small {t : Tr} (h : tourX t = true) : (tourS t).length ≤ 4096 := by
  have hv := tour_v (t := t.toA) (by rw [Tr.toA_pl]; exact h)
  have h1 := lineS_m (m := 20) (ws := [wTour, Lib.itoa t.dawn]) (fun x hx => by
    simp only [List.mem_cons, List.not_mem_nil, or_false] at hx
    rcases hx with rfl | rfl
    · decide
    · exact itoa_len hv.dawn)
  have r1 := rowS_m (w := wFrom) (by decide) (hv.all t.toA.fr (all_fr _)).1 (hv.all t.toA.fr (all_fr _)).2
  have r2 := rowS_m (w := wStay) (by decide) (hv.all t.toA.stay (all_stay _)).1 (hv.all t.toA.stay (all_stay _)).2
  have r3 := rowS_m (w := wLight) (by decide) (hv.all t.toA.light (all_light _)).1 (hv.all t.toA.light (all_light _)).2
  have r4 := flat_len_le (f := rowS wWays) (m := 302) (l := t.ways) (fun l hl => by
    have h2 := hv.all ⟨l, none, 0, 0, 0⟩ (all_way (List.mem_map.2 ⟨l, hl, rfl⟩))
    exact rowS_m (by decide) h2.1 h2.2)
  have hw : t.ways.length ≤ 6 := by have := hv.ways; simpa [Tr.toA] using this
  unfold tourS
  simp only [List.length_append, List.length_cons, List.length_nil] at h1 ⊢
  have e1 : t.toA.fr.l = t.fr := rfl
  have e2 : t.toA.stay.l = t.stay := rfl
  have e3 : t.toA.light.l = t.light := rfl
  rw [e1] at r1
  rw [e2] at r2
  rw [e3] at r3
  omega
theorem loanS_m {l : Ln} (h : LnV l) : (loanS l).length ≤ 64 := by
  have k3 : ∀ a b c : Str, a.length ≤ 20 → b.length ≤ 20 → c.length ≤ 20 → (lineS [a, b, c]).length ≤ 64 := fun a b c ha hb hc => by
    have := lineS_m (m := 20) (ws := [a, b, c]) (fun x hx => by
      simp only [List.mem_cons, List.not_mem_nil, or_false] at hx
      rcases hx with rfl | rfl | rfl <;> assumption)
    simpa using this
  have kw : (if l.kind = 1 then wBack else wTake).length ≤ 20 := by split <;> decide
  unfold loanS
  split
  · split
    · exact k3 _ _ _ (by decide) (itoa_len h.slot) (by decide)
    · exact k3 _ _ _ (by decide) (itoa_len h.slot) (itoa_len h.card)
  · exact k3 _ _ _ kw (itoa_len h.card) (itoa_len h.person)
theorem cab_small {c : Cb} (h : cabX c = true) : (cabS c).length ≤ 4096 := by
  have hv := cab_v (c := c.toA) h
  have h1 := lineS_m (m := 20) (ws := [wCab, Lib.itoa c.slots, Lib.itoa c.wrong]) (fun x hx => by
    simp only [List.mem_cons, List.not_mem_nil, or_false] at hx
    rcases hx with rfl | rfl | rfl
    · decide
    · exact itoa_len hv.slots
    · exact itoa_len hv.wrong)
  have h2 := lineS_m (m := 20) (ws := wHomes :: c.homes.map Lib.itoa) (fun x hx => by
    rcases List.mem_cons.1 hx with rfl | hx
    · decide
    · obtain ⟨n, hn, rfl⟩ := List.mem_map.1 hx
      exact itoa_len (hv.hom64 n hn))
  have h3 := flat_len_le (f := loanS) (m := 64) (l := c.loans) (fun l hl => loanS_m (hv.each l hl))
  have h4 : c.homes.length ≤ 5 := hv.homes
  have h5 : c.loans.length ≤ 12 := hv.loans
  unfold cabS
  simp only [List.length_append, List.length_cons, List.length_map, List.length_nil] at h1 h2 ⊢
  omega
theorem five_m {a b c d e : Str} (ha : a.length ≤ 20) (hb : b.length ≤ 20) (hc : c.length ≤ 20) (hd : d.length ≤ 20) (he : e.length ≤ 20) : (lineS [a, b, c, d, e]).length ≤ 106 := by
  have := lineS_m (m := 20) (ws := [a, b, c, d, e]) (fun x hx => by
    simp only [List.mem_cons, List.not_mem_nil, or_false] at hx
    rcases hx with rfl | rfl | rfl | rfl | rfl <;> assumption)
  simpa using this
theorem roy_small {r : Ry} (h : royalX r = true) : (royalS r).length ≤ 4096 := by
  have hv := roy_v (r := r.toA) (by rw [Ry.toA_pl]; exact h)
  have h1 := flat_len_le (f := fun x : Tm × Int => agentS x.1 x.2) (m := 106) (l := r.terms.zip r.paid) (fun x hx => by
    have h2 := List.of_mem_zip (a := x.1) (b := x.2) hx
    have h3 := hv.tm _ h2.1
    exact five_m (by decide) (itoa_len h3.1) (itoa_len h3.2.1) (itoa_len h3.2.2) (itoa_len (hv.pd _ h2.2)))
  have h2 := flat_len_le (f := fun x : Int × List Int => kindS x.1 x.2) (m := 148) (l := r.prices.zip r.shares) (fun x hx => by
    have h2 := List.of_mem_zip (a := x.1) (b := x.2) hx
    have h3 := hv.sh ⟨x.2, none, 0, 0, 0⟩ (List.mem_map.2 ⟨x.2, h2.2, rfl⟩)
    have h4 := lineS_m (m := 20) (ws := wKind :: Lib.itoa x.1 :: x.2.map Lib.itoa) (fun y hy => by
      rcases List.mem_cons.1 hy with rfl | hy
      · decide
      · rcases List.mem_cons.1 hy with rfl | hy
        · exact itoa_len (hv.pr _ h2.1)
        · obtain ⟨n, hn, rfl⟩ := List.mem_map.1 hy
          exact itoa_len (h3.2 n hn))
    have h5 : x.2.length ≤ 5 := h3.1
    simp only [List.length_cons, List.length_map] at h4
    unfold kindS
    omega)
  have h3 := flat_len_le (f := reportS) (m := 106) (l := r.reports) (fun x hx => by
    have h3 := hv.rp x hx
    exact five_m (by decide) (itoa_len h3.1) (itoa_len h3.2.1) (itoa_len h3.2.2.1) (itoa_len h3.2.2.2))
  have h4 : r.terms.length ≤ 4 := hv.terms
  have h5 : r.prices.length ≤ 4 := hv.prices
  have h6 : r.reports.length ≤ 20 := hv.reports
  have e : (lineS [wRoyal]).length = 6 := by decide
  have z1 : (r.terms.zip r.paid).length ≤ 4 := by rw [List.length_zip]; omega
  have z2 : (r.prices.zip r.shares).length ≤ 4 := by rw [List.length_zip]; omega
  unfold royalS
  simp only [List.length_append, e]
  omega
theorem tour_back {t : Tr} (h : tourX t = true) : readX tourStep zeroT tourX tourS (tourS t) = .ok t := readX_ok parse_tour h rfl (Nat.not_lt.2 (tour_small h))
theorem cab_back {c : Cb} (h : cabX c = true) : readX cabStep zeroC cabX cabS (cabS c) = .ok c := readX_ok parse_cab h rfl (Nat.not_lt.2 (cab_small h))
theorem roy_back {r : Ry} (h : royalX r = true) : readX royStep zeroR royalX royalS (royalS r) = .ok r := readX_ok parse_roy h rfl (Nat.not_lt.2 (roy_small h))
end Go.Bk
namespace Go.Proofs.YtleamcmljcdapaaGreatDoor
open Go Go.Eng
theorem boolB_4 : boolB Tryz.prog 4 = true := by kernel_rfl
theorem ent_33 : Enters Tryz.prog 33 := enters_of Tryz.func33 (by kernel_rfl) rfl
theorem ent_34 : Enters Tryz.prog 34 := enters_of Tryz.func34 (by kernel_rfl) rfl
theorem ent_35 : Enters Tryz.prog 35 := enters_of Tryz.func35 (by kernel_rfl) rfl
end Go.Proofs.YtleamcmljcdapaaGreatDoor
