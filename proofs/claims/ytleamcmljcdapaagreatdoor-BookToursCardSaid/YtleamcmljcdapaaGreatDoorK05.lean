/- Walks of the reference of layer 14: what is the same: bytes, prints, tours. -/
import Derived.Test.YtleamcmljcdapaaGreatDoorK04
import Derived.Test.YtleamcmljcdapaaGreatDoorRows
import Derived.Lib.LaidTab
import Derived.Stop.LaidErr
import Derived.MakeChecks
import Derived.Shelf.Vars
import Derived.Handed
import Derived.HandedShaped
import Derived.Lay
import Derived.Lib.LastIndexLaws
set_option linter.unusedSimpArgs false
set_option linter.unusedVariables false
namespace Go.Bk
open Go Go.Eng Go.RowKit
deriving instance DecidableEq for Tr, Cb, Ry, Ps
theorem ps_same {p q : Ps} (h : p.cards = q.cards) : decide (p = q) = (decide (p.less = q.less) && decide (p.loss = q.loss)) := by
  cases p; cases q; simp_all
theorem ps_ne {p q : Ps} (h : p.cards ≠ q.cards) : decide (p = q) = false := decide_eq_false fun e => h (e ▸ rfl)
theorem tr_same {p q : Tr} (h : p.ways = q.ways) : decide (p = q) = (decide (p.dawn = q.dawn) && (decide (p.fr = q.fr) && (decide (p.stay = q.stay) && decide (p.light = q.light)))) := by
  cases p; cases q; simp_all
theorem tr_ne {p q : Tr} (h : p.ways ≠ q.ways) : decide (p = q) = false := decide_eq_false fun e => h (e ▸ rfl)
theorem sp_eq {s u : Sp} : decide (s = u) = (decide (s.lo = u.lo) && decide (s.hi = u.hi)) := by cases s; cases u; simp
theorem mapT_step {α β : Type} {f : α → β} {l m : List α} {k : Nat} (hk : k < l.length) (hk2 : k < m.length) {x y : α} (hx : l[k] = x) (hy : m[k] = y) (kI : (l.map f).take k = (m.map f).take k) (he : f x = f y) : (l.map f).take (k + 1) = (m.map f).take (k + 1) :=
  eqT_step (by simpa using hk) (by simpa using hk2) (by simp [hx]) (by simp [hy]) kI he
theorem mapT_ne {α β : Type} {f : α → β} {l m : List α} {k : Nat} (hk : k < l.length) (hk2 : k < m.length) {x y : α} (hx : l[k] = x) (hy : m[k] = y) (he : f x ≠ f y) : l.map f ≠ m.map f :=
  ne_at (k := k) (by simpa using hk) (by simpa using hk2) (x := f x) (y := f y) (by simp [hx]) (by simp [hy]) he
end Go.Bk
namespace Go.Proofs.YtleamcmljcdapaaGreatDoor
open Go Go.Eng Go.Bk Go.RowKit

theorem rsamePrints_calls (p q : PsA) (W : World) (hP : p.cards.ok Pt.cells 5 W) (hQ : q.cards.ok Pt.cells 5 W) (hl : p.cards.l.length ≤ 1000000) (hl2 : q.cards.l.length ≤ 1000000) : Calls Tryz.prog 30 #[p.v, q.v] W (Pure (.bool (decide (p.pl = q.pl))) W) := by
  refine calls_start Tryz.func30 rfl rfl ?_
  refine st ?_
  refine RunL.new (New.box rfl) rfl rfl rfl (fun b2 => ?_)
  refine RunL.new (New.box rfl) rfl rfl rfl (fun b3 => ?_)
  refine st ?_
  refine lv (Val.fieldAddr rfl fld_40_0) ?_
  refine lv (Val.load_one rfl (.tail _ (.head _)) ty_36 rfl) ?_
  refine lv (Val.len_sl rfl sl_36) ?_
  refine lv (Val.fieldAddr rfl fld_40_0) ?_
  refine lv (Val.load_one rfl (.head _) ty_36 rfl) ?_
  refine lv (Val.len_sl rfl sl_36) ?_
  refine cn rfl ?_ ?_
  ·intro c0'
   refine st ?_
   refine RunC.ret ?_
   refine RunE.pass_ret ?_
   exact RunE.retP (.r1 rfl (.tmp rfl)) (by first | (rw [ps_same (show p.pl.cards = q.pl.cards from eq_end (show p.cards.l.length = q.cards.l.length by omega) kI), sp_eq, sp_eq]; first | rfl | (simp_all [PsA.pl]; done)) | (rw [ps_ne (show p.pl.cards ≠ q.pl.cards from ne_at hk hk2 hx hy (by rintro rfl; simp_all))]; done) | (rw [ps_ne (show p.pl.cards ≠ q.pl.cards from ne_len (show p.cards.l.length ≠ q.cards.l.length by omega))]; done))
  intro c0'
  refine st ?_
  refine RunC.loopK (p.cards.l.length) (fun k q => (5, .int .i64 (k : Int)) :: q) (fun _ => _) (fun _ => []) (fun k => p.cards.l.take k = q.cards.l.take k) (by simp) rfl (Sub.consE (t := 5) rfl rfl (Sub.cons (t := 2) rfl (Sub.cons (t := 3) rfl (Sub.nil _)))) (.cons .here rfl (.cons .here rfl .nil)) ?_
  intro k kN kI
  refine st ?_
  refine lv (Val.fieldAddr rfl fld_40_0) ?_
  refine lv (Val.load_one rfl (.tail _ (.head _)) ty_36 rfl) ?_
  refine lv (Val.len_sl rfl sl_36) ?_
  refine cn rfl ?_ ?_
  ·intro c1'
   have hk : k < p.cards.l.length := by omega
   have hk2 : k < q.cards.l.length := by omega
   obtain ⟨x, hx⟩ : ∃ x, p.cards.l[k] = x := ⟨_, rfl⟩
   obtain ⟨y, hy⟩ : ∃ y, q.cards.l[k] = y := ⟨_, rfl⟩
   refine st ?_
   refine RunC.draw 10 fol_ (.cons .here rfl (.cons .here rfl .nil)) ?_
   refine va 0 rfl (Val.fieldAddr rfl fld_40_0) rfl rfl rfl (.cons .here rfl (.cons .here rfl .nil)) rfl ?_
   refine va 1 rfl (Val.load_one rfl (.tail _ (.head _)) ty_36 rfl) rfl rfl rfl (.cons .here rfl (.cons .here rfl .nil)) rfl ?_
   refine va 2 rfl (Val.pure rfl) rfl rfl rfl (.cons .here rfl (.cons .here rfl .nil)) rfl ?_
   refine va 3 rfl (Val.indexAddr_slp rfl rfl sl_36 (by omega) (by omega) (Sl.ptrM hP hk)) rfl rfl rfl (.cons .here rfl (.cons .here rfl .nil)) rfl ?_
   refine va 4 rfl (Val.load_gen rfl (fun w hm => Sl.loadX hP (by decide) hm (by simp) ty_120 hk hx)) rfl rfl rfl (.cons .here rfl (.cons .here rfl .nil)) rfl ?_
   refine va 5 rfl (Val.fieldAddr rfl fld_40_0) rfl rfl rfl (.cons .here rfl (.cons .here rfl .nil)) rfl ?_
   refine va 6 rfl (Val.load_one rfl (.head _) ty_36 rfl) rfl rfl rfl (.cons .here rfl (.cons .here rfl .nil)) rfl ?_
   refine va 7 rfl (Val.pure rfl) rfl rfl rfl (.cons .here rfl (.cons .here rfl .nil)) rfl ?_
   refine va 8 rfl (Val.indexAddr_slp rfl rfl sl_36 (by omega) (by omega) (Sl.ptrM hQ hk2)) rfl rfl rfl (.cons .here rfl (.cons .here rfl .nil)) rfl ?_
   refine va 9 rfl (Val.load_gen rfl (fun w hm => Sl.loadX hQ (by decide) hm (by simp) ty_120 hk2 hy)) rfl rfl rfl (.cons .here rfl (.cons .here rfl .nil)) rfl ?_
   refine RunA.toB (by kernel_rfl) ?_
   refine RunB.one (i := 10) (by kernel_rfl) ?_
   refine RunI.val rfl (Val.neq_flat rfl rfl eqB_120 (kl_120 _ _ _ _ _ _ _ _ _ _ )) rfl rfl rfl (RunK.toB ?_)
   refine RunB.done (by kernel_rfl) ?_
   refine st ?_
   refine cn rfl ?_ ?_
   ·intro c2'
    refine st ?_
    refine RunC.ret ?_
    refine RunE.block_ret ?_
    refine RunE.pass_ret ?_
    refine RunE.pass_ret ?_
    refine RunE.block_ret ?_
    refine RunE.pass_ret ?_
    exact RunE.retP (.r1 rfl (.tmp rfl)) (by first | (rw [ps_same (show p.pl.cards = q.pl.cards from eq_end (show p.cards.l.length = q.cards.l.length by omega) kI), sp_eq, sp_eq]; first | rfl | (simp_all [PsA.pl]; done)) | (rw [ps_ne (show p.pl.cards ≠ q.pl.cards from ne_at hk hk2 hx hy (by rintro rfl; simp_all))]; done) | (rw [ps_ne (show p.pl.cards ≠ q.pl.cards from ne_len (show p.cards.l.length ≠ q.cards.l.length by omega))]; done))
   intro c2'
   refine st ?_
   refine lv (Val.add rfl rfl (IntWalk.i64_in _ ⟨by omega, by omega⟩)) ?_
   exact RunE.round (by omega) (eqT_step hk hk2 hx hy kI (by cases x with | mk a b c => cases a; cases b; cases y with | mk a2 b2 c2 => cases a2; cases b2; simp_all)) rfl (Sub.consE (t := 5) rfl rfl (Sub.cons (t := 2) rfl (Sub.cons (t := 3) rfl (Sub.nil _)))) (.cons .here rfl (.cons .here rfl .nil))
  intro c1'
  obtain rfl : k = p.cards.l.length := by omega
  refine RunC.exit ?_
  refine RunE.pass_exit ?_
  refine RunE.pass_exit ?_
  refine RunE.block_here ?_
  refine st ?_
  refine lv (Val.fieldAddr rfl fld_40_1) ?_
  refine lv (Val.load_agg rfl (.tail _ (.head _)) ty_38 rfl) ?_
  refine lv (Val.fieldAddr rfl fld_40_1) ?_
  refine lv (Val.load_agg rfl (.head _) ty_38 rfl) ?_
  refine lv (Val.eql_pair rfl rfl pair_38) ?_
  refine RunL.andPart (dj := 36) (dp := 42) 6 rfl (fun g36 => by
    have g36' := g36
    try simp only [nH] at g36'
    refine lv (Val.fieldAddr rfl fld_40_2) ?_
    refine lv (Val.load_agg rfl (.tail _ (.head _)) ty_38 rfl) ?_
    refine lv (Val.fieldAddr rfl fld_40_2) ?_
    refine lv (Val.load_agg rfl (.head _) ty_38 rfl) ?_
    refine RunL.val (Val.eql_pair rfl rfl pair_38) rfl rfl rfl ?_
    refine sv ?_
    exact RunL.segEnd (Sub.cons rfl (Sub.skip rfl (Sub.skip rfl (Sub.skip rfl (Sub.skip rfl (Sub.skip rfl (Sub.skip rfl (Sub.same rfl (by rw [g36]) (Sub.refl _))))))))) (List.Sublist.refl _)
  ) (fun g36 => by
    have g36' := g36
    try simp only [nH] at g36'
    iterate 5 refine RunL.no rfl rfl rfl ?_
    refine sv ?_
    exact RunL.segEnd (Sub.cons rfl (Sub.skip rfl (Sub.skip rfl (Sub.skip rfl (Sub.skip rfl (Sub.skip rfl (Sub.skip rfl (Sub.same rfl (by rw [g36]) (Sub.refl _))))))))) (List.Sublist.refl _)
  ) ?_
  refine st ?_
  refine RunC.ret ?_
  exact RunE.retP (.r1 rfl (.tmp rfl)) (by first | (rw [ps_same (show p.pl.cards = q.pl.cards from eq_end (show p.cards.l.length = q.cards.l.length by omega) kI), sp_eq, sp_eq]; first | rfl | (simp_all [PsA.pl]; done)) | (rw [ps_ne (show p.pl.cards ≠ q.pl.cards from ne_at hk hk2 hx hy (by rintro rfl; simp_all))]; done) | (rw [ps_ne (show p.pl.cards ≠ q.pl.cards from ne_len (show p.cards.l.length ≠ q.cards.l.length by omega))]; done))
theorem rsameTour_calls (t u : TrA) (hs : TrSm t) (hs2 : TrSm u) (W : World) (hT : TrOk W t) (hU : TrOk W u) : Calls Tryz.prog 14 #[t.v, u.v] W (Pure (.bool (decide (t.pl = u.pl))) W) := by
  obtain ⟨s1, s2, s3, s4, s5⟩ := id hs
  obtain ⟨u1, u2, u3, u4, u5⟩ := id hs2
  refine calls_start Tryz.func14 rfl rfl ?_
  refine st ?_
  refine RunL.new (New.box rfl) rfl rfl rfl (fun b2 => ?_)
  refine RunL.new (New.box rfl) rfl rfl rfl (fun b3 => ?_)
  refine st ?_
  refine lv (Val.fieldAddr rfl fld_25_2) ?_
  refine lv (Val.load_one rfl (.tail _ (.head _)) ty_23 rfl) ?_
  refine lv (Val.len_sl rfl sl_23) ?_
  refine lv (Val.fieldAddr rfl fld_25_2) ?_
  refine lv (Val.load_one rfl (.head _) ty_23 rfl) ?_
  refine lv (Val.len_sl rfl sl_23) ?_
  refine cn rfl ?_ ?_
  ·intro c0'
   refine st ?_
   refine RunC.ret ?_
   refine RunE.pass_ret ?_
   exact RunE.retP (.r1 rfl (.tmp rfl)) (by first | (rw [tr_ne (show t.pl.ways ≠ u.pl.ways from mapT_ne hk hk2 hx hy (by simp_all))]; done) | (rw [tr_ne (show t.pl.ways ≠ u.pl.ways from ne_len (show (t.ways.l.map (·.l)).length ≠ (u.ways.l.map (·.l)).length by simp only [List.length_map]; omega))]; done) | (rw [tr_same (show t.pl.ways = u.pl.ways from eq_end (show (t.ways.l.map (·.l)).length = (u.ways.l.map (·.l)).length by simp only [List.length_map]; omega) (by show List.take (t.ways.l.map (·.l)).length (t.ways.l.map (·.l)) = List.take (t.ways.l.map (·.l)).length (u.ways.l.map (·.l)); rw [List.length_map]; exact kI))]; exact congrArg Value.bool (by rw [Bool.and_assoc, Bool.and_assoc]; rfl)))
  intro c0'
  refine st ?_
  refine RunC.loopK (t.ways.l.length) (fun k q => (5, .int .i64 (k : Int)) :: q) (fun _ => _) (fun _ => []) (fun k => (t.ways.l.map (·.l)).take k = (u.ways.l.map (·.l)).take k) (by simp) rfl (Sub.consE (t := 5) rfl rfl (Sub.cons (t := 2) rfl (Sub.cons (t := 3) rfl (Sub.nil _)))) (.cons .here rfl (.cons .here rfl .nil)) ?_
  intro k kN kI
  refine st ?_
  refine lv (Val.fieldAddr rfl fld_25_2) ?_
  refine lv (Val.load_one rfl (.tail _ (.head _)) ty_23 rfl) ?_
  refine lv (Val.len_sl rfl sl_23) ?_
  refine cn rfl ?_ ?_
  ·intro c1'
   have hk : k < t.ways.l.length := by omega
   have hk2 : k < u.ways.l.length := by omega
   obtain ⟨x, hx⟩ : ∃ x, t.ways.l[k] = x := ⟨_, rfl⟩
   obtain ⟨y, hy⟩ : ∃ y, u.ways.l[k] = y := ⟨_, rfl⟩
   have hxm : x ∈ t.ways.l := hx ▸ List.getElem_mem hk
   have hym : y ∈ u.ways.l := hy ▸ List.getElem_mem hk2
   refine st ?_
   refine RunC.draw 10 fol_ (.cons .here rfl (.cons .here rfl .nil)) ?_
   refine va 0 rfl (Val.fieldAddr rfl fld_25_2) rfl rfl rfl (.cons .here rfl (.cons .here rfl .nil)) rfl ?_
   refine va 1 rfl (Val.load_one rfl (.tail _ (.head _)) ty_23 rfl) rfl rfl rfl (.cons .here rfl (.cons .here rfl .nil)) rfl ?_
   refine va 2 rfl (Val.pure rfl) rfl rfl rfl (.cons .here rfl (.cons .here rfl .nil)) rfl ?_
   refine va 3 rfl (Val.indexAddr_slp rfl rfl sl_23 (by omega) (by omega) (Sl.ptrM hT.ways hk)) rfl rfl rfl (.cons .here rfl (.cons .here rfl .nil)) rfl ?_
   refine va 4 rfl (Val.load_gen rfl (fun w hm => Sl.loadM1 hT.ways (by decide) hm (by simp) ty_22 hk (v := x.v) (by simp [SA.cell, hx]))) rfl rfl rfl (.cons .here rfl (.cons .here rfl .nil)) rfl ?_
   refine va 5 rfl (Val.fieldAddr rfl fld_25_2) rfl rfl rfl (.cons .here rfl (.cons .here rfl .nil)) rfl ?_
   refine va 6 rfl (Val.load_one rfl (.head _) ty_23 rfl) rfl rfl rfl (.cons .here rfl (.cons .here rfl .nil)) rfl ?_
   refine va 7 rfl (Val.pure rfl) rfl rfl rfl (.cons .here rfl (.cons .here rfl .nil)) rfl ?_
   refine va 8 rfl (Val.indexAddr_slp rfl rfl sl_23 (by omega) (by omega) (Sl.ptrM hU.ways hk2)) rfl rfl rfl (.cons .here rfl (.cons .here rfl .nil)) rfl ?_
   refine va 9 rfl (Val.load_gen rfl (fun w hm => Sl.loadM1 hU.ways (by decide) hm (by simp) ty_22 hk2 (v := y.v) (by simp [SA.cell, hy]))) rfl rfl rfl (.cons .here rfl (.cons .here rfl .nil)) rfl ?_
   refine RunA.toB (by kernel_rfl) ?_
   refine RunB.one (i := 10) (by kernel_rfl) ?_
   refine RunI.callP rfl (isCall_func rfl ent_48) rfl rfl rfl (fun w hm => (rsameSpans_calls x y w ((hT.rows x hxm).mono0 (by decide) hm) ((hU.rows y hym).mono0 (by decide) hm) (by have := s3 x hxm; omega) (by have := u3 y hym; omega))) (RunK.toB ?_)
   refine RunB.one (i := 11) (by kernel_rfl) ?_
   refine RunI.val rfl (Val.pure rfl) rfl rfl rfl (RunK.toB ?_)
   refine RunB.done (by kernel_rfl) ?_
   refine st ?_
   refine cn rfl ?_ ?_
   ·intro c2'
    refine st ?_
    refine RunC.ret ?_
    refine RunE.block_ret ?_
    refine RunE.pass_ret ?_
    refine RunE.pass_ret ?_
    refine RunE.block_ret ?_
    refine RunE.pass_ret ?_
    exact RunE.retP (.r1 rfl (.tmp rfl)) (by first | (rw [tr_ne (show t.pl.ways ≠ u.pl.ways from mapT_ne hk hk2 hx hy (by simp_all))]; done) | (rw [tr_ne (show t.pl.ways ≠ u.pl.ways from ne_len (show (t.ways.l.map (·.l)).length ≠ (u.ways.l.map (·.l)).length by simp only [List.length_map]; omega))]; done) | (rw [tr_same (show t.pl.ways = u.pl.ways from eq_end (show (t.ways.l.map (·.l)).length = (u.ways.l.map (·.l)).length by simp only [List.length_map]; omega) (by show List.take (t.ways.l.map (·.l)).length (t.ways.l.map (·.l)) = List.take (t.ways.l.map (·.l)).length (u.ways.l.map (·.l)); rw [List.length_map]; exact kI))]; exact congrArg Value.bool (by rw [Bool.and_assoc, Bool.and_assoc]; rfl)))
   intro c2'
   refine st ?_
   refine lv (Val.add rfl rfl (IntWalk.i64_in _ ⟨by omega, by omega⟩)) ?_
   exact RunE.round (by omega) (mapT_step hk hk2 hx hy kI (by simp_all)) rfl (Sub.consE (t := 5) rfl rfl (Sub.cons (t := 2) rfl (Sub.cons (t := 3) rfl (Sub.nil _)))) (.cons .here rfl (.cons .here rfl .nil))
  intro c1'
  obtain rfl : k = t.ways.l.length := by omega
  refine RunC.exit ?_
  refine RunE.pass_exit ?_
  refine RunE.pass_exit ?_
  refine RunE.block_here ?_
  refine st ?_
  refine lv (Val.fieldAddr rfl fld_25_0) ?_
  refine lv (Val.load_one rfl (.tail _ (.head _)) ty_3 rfl) ?_
  refine lv (Val.fieldAddr rfl fld_25_0) ?_
  refine lv (Val.load_one rfl (.head _) ty_3 rfl) ?_
  refine RunL.andPart (dj := 37) (dp := 43) 6 rfl (fun g37 => by
    have g37' := g37
    try simp only [nH] at g37'
    refine lv (Val.fieldAddr rfl fld_25_1) ?_
    refine lv (Val.load_one rfl (.tail _ (.head _)) ty_22 rfl) ?_
    refine lv (Val.fieldAddr rfl fld_25_1) ?_
    refine lv (Val.load_one rfl (.head _) ty_22 rfl) ?_
    refine RunL.callP (isCall_func rfl ent_48) rfl rfl rfl (fun w hm => (rsameSpans_calls t.fr u.fr w (hT.fr.mono0 (by decide) hm) (hU.fr.mono0 (by decide) hm) (by omega) (by omega))) ?_
    refine sv ?_
    exact RunL.segEnd (Sub.cons rfl (Sub.skip rfl (Sub.skip rfl (Sub.skip rfl (Sub.skip rfl (Sub.skip rfl (Sub.skip rfl (Sub.same rfl (by rw [g37]) (Sub.refl _))))))))) (List.Sublist.refl _)
  ) (fun g37 => by
    have g37' := g37
    try simp only [nH] at g37'
    iterate 5 refine RunL.no rfl rfl rfl ?_
    refine sv ?_
    exact RunL.segEnd (Sub.cons rfl (Sub.skip rfl (Sub.skip rfl (Sub.skip rfl (Sub.skip rfl (Sub.skip rfl (Sub.skip rfl (Sub.same rfl (by rw [g37]) (Sub.refl _))))))))) (List.Sublist.refl _)
  ) ?_
  refine st ?_
  refine RunL.andPart (dj := 44) (dp := 50) 6 rfl (fun g44 => by
    have g44' := g44
    try simp only [nH] at g44'
    refine lv (Val.fieldAddr rfl fld_25_3) ?_
    refine lv (Val.load_one rfl (.tail _ (.head _)) ty_22 rfl) ?_
    refine lv (Val.fieldAddr rfl fld_25_3) ?_
    refine lv (Val.load_one rfl (.head _) ty_22 rfl) ?_
    refine RunL.callP (isCall_func rfl ent_48) rfl rfl rfl (fun w hm => (rsameSpans_calls t.stay u.stay w (hT.stay.mono0 (by decide) hm) (hU.stay.mono0 (by decide) hm) (by omega) (by omega))) ?_
    refine sv ?_
    exact RunL.segEnd (Sub.cons rfl (Sub.skip rfl (Sub.skip rfl (Sub.skip rfl (Sub.skip rfl (Sub.skip rfl (Sub.skip rfl (Sub.same rfl (by rw [g44]) (Sub.refl _))))))))) (List.Sublist.refl _)
  ) (fun g44 => by
    have g44' := g44
    try simp only [nH] at g44'
    iterate 5 refine RunL.no rfl rfl rfl ?_
    refine sv ?_
    exact RunL.segEnd (Sub.cons rfl (Sub.skip rfl (Sub.skip rfl (Sub.skip rfl (Sub.skip rfl (Sub.skip rfl (Sub.skip rfl (Sub.same rfl (by rw [g44]) (Sub.refl _))))))))) (List.Sublist.refl _)
  ) ?_
  refine st ?_
  refine RunL.andPart (dj := 51) (dp := 57) 6 rfl (fun g51 => by
    have g51' := g51
    try simp only [nH] at g51'
    refine lv (Val.fieldAddr rfl fld_25_4) ?_
    refine lv (Val.load_one rfl (.tail _ (.head _)) ty_22 rfl) ?_
    refine lv (Val.fieldAddr rfl fld_25_4) ?_
    refine lv (Val.load_one rfl (.head _) ty_22 rfl) ?_
    refine RunL.callP (isCall_func rfl ent_48) rfl rfl rfl (fun w hm => (rsameSpans_calls t.light u.light w (hT.light.mono0 (by decide) hm) (hU.light.mono0 (by decide) hm) (by omega) (by omega))) ?_
    refine sv ?_
    exact RunL.segEnd (Sub.cons rfl (Sub.skip rfl (Sub.skip rfl (Sub.skip rfl (Sub.skip rfl (Sub.skip rfl (Sub.skip rfl (Sub.same rfl (by rw [g51]) (Sub.refl _))))))))) (List.Sublist.refl _)
  ) (fun g51 => by
    have g51' := g51
    try simp only [nH] at g51'
    iterate 5 refine RunL.no rfl rfl rfl ?_
    refine sv ?_
    exact RunL.segEnd (Sub.cons rfl (Sub.skip rfl (Sub.skip rfl (Sub.skip rfl (Sub.skip rfl (Sub.skip rfl (Sub.skip rfl (Sub.same rfl (by rw [g51]) (Sub.refl _))))))))) (List.Sublist.refl _)
  ) ?_
  refine st ?_
  refine RunC.ret ?_
  exact RunE.retP (.r1 rfl (.tmp rfl)) (by first | (rw [tr_ne (show t.pl.ways ≠ u.pl.ways from mapT_ne hk hk2 hx hy (by simp_all))]; done) | (rw [tr_ne (show t.pl.ways ≠ u.pl.ways from ne_len (show (t.ways.l.map (·.l)).length ≠ (u.ways.l.map (·.l)).length by simp only [List.length_map]; omega))]; done) | (rw [tr_same (show t.pl.ways = u.pl.ways from eq_end (show (t.ways.l.map (·.l)).length = (u.ways.l.map (·.l)).length by simp only [List.length_map]; omega) (by show List.take (t.ways.l.map (·.l)).length (t.ways.l.map (·.l)) = List.take (t.ways.l.map (·.l)).length (u.ways.l.map (·.l)); rw [List.length_map]; exact kI))]; exact congrArg Value.bool (by rw [Bool.and_assoc, Bool.and_assoc]; rfl)))
end Go.Proofs.YtleamcmljcdapaaGreatDoor
namespace Go.Proofs.YtleamcmljcdapaaGreatDoor
open Go Go.Eng
theorem ent_58 : Enters Tryz.prog 58 := enters_of Tryz.func58 (by kernel_rfl) rfl
theorem eqB_109 : aggB Tryz.prog 109 = true := by kernel_rfl
theorem eqB_111 : aggB Tryz.prog 111 = true := by kernel_rfl
theorem eqB_98 : aggB Tryz.prog 98 = true := by kernel_rfl
theorem kl_109 (a0 : Int) (a1 : Int) (a2 : Int) (c0 : Int) (c1 : Int) (c2 : Int) : eqF Tryz.prog 8 109 [.int .i64 a0, .int .i64 a1, .int .i64 a2] [.int .i64 c0, .int .i64 c1, .int .i64 c2] = some (decide (a0 = c0) && (decide (a1 = c1) && (decide (a2 = c2) && true))) := by kernel_rfl
theorem kl_111 (a0 : Int) (a1 : Int) (a2 : Int) (a3 : Int) (c0 : Int) (c1 : Int) (c2 : Int) (c3 : Int) : eqF Tryz.prog 8 111 [.int .i64 a0, .int .i64 a1, .int .i64 a2, .int .i64 a3] [.int .i64 c0, .int .i64 c1, .int .i64 c2, .int .i64 c3] = some (decide (a0 = c0) && (decide (a1 = c1) && (decide (a2 = c2) && (decide (a3 = c3) && true)))) := by kernel_rfl
theorem kl_98 (a0 : Int) (a1 : Int) (a2 : Int) (a3 : Int) (c0 : Int) (c1 : Int) (c2 : Int) (c3 : Int) : eqF Tryz.prog 8 98 [.int .i64 a0, .int .i64 a1, .int .i64 a2, .int .i64 a3] [.int .i64 c0, .int .i64 c1, .int .i64 c2, .int .i64 c3] = some (decide (a0 = c0) && (decide (a1 = c1) && (decide (a2 = c2) && (decide (a3 = c3) && true)))) := by kernel_rfl
end Go.Proofs.YtleamcmljcdapaaGreatDoor
namespace Go.Bk
open Go Go.Eng Go.RowKit
theorem cb_same {p q : Cb} (h : p.loans = q.loans) : decide (p = q) = (decide (p.slots = q.slots) && (decide (p.wrong = q.wrong) && decide (p.homes = q.homes))) := by
  cases p; cases q; simp_all
  exact Bool.eq_iff_iff.2 (by simp; intro _; exact and_comm)
theorem cb_ne {p q : Cb} (h : p.loans ≠ q.loans) : decide (p = q) = false := decide_eq_false fun e => h (e ▸ rfl)
theorem ry_same {p q : Ry} (h1 : p.terms = q.terms) (h2 : p.shares = q.shares) (h3 : p.reports = q.reports) : decide (p = q) = (decide (p.prices = q.prices) && decide (p.paid = q.paid)) := by
  cases p; cases q; simp_all
theorem ry_ne1 {p q : Ry} (h : p.terms ≠ q.terms) : decide (p = q) = false := decide_eq_false fun e => h (e ▸ rfl)
theorem ry_ne2 {p q : Ry} (h : p.shares ≠ q.shares) : decide (p = q) = false := decide_eq_false fun e => h (e ▸ rfl)
theorem ry_ne3 {p q : Ry} (h : p.reports ≠ q.reports) : decide (p = q) = false := decide_eq_false fun e => h (e ▸ rfl)
end Go.Bk
namespace Go.Proofs.YtleamcmljcdapaaGreatDoor
open Go Go.Eng Go.Bk Go.RowKit

theorem rsameCabinet_calls (c d : CbA) (hs : CbS c) (hs2 : CbS d) (W : World) (hC : CbOk W c) (hD : CbOk W d) : Calls Tryz.prog 23 #[c.v, d.v] W (Pure (.bool (decide (c.pl = d.pl))) W) := by
  have s1 := hs.homes
  have s2 := hs.loans
  have u1 := hs2.homes
  have u2 := hs2.loans
  refine calls_start Tryz.func23 rfl rfl ?_
  refine st ?_
  refine RunL.new (New.box rfl) rfl rfl rfl (fun b2 => ?_)
  refine RunL.new (New.box rfl) rfl rfl rfl (fun b3 => ?_)
  refine st ?_
  refine lv (Val.fieldAddr rfl fld_30_3) ?_
  refine lv (Val.load_one rfl (.tail _ (.head _)) ty_28 rfl) ?_
  refine lv (Val.len_sl rfl sl_28) ?_
  refine lv (Val.fieldAddr rfl fld_30_3) ?_
  refine lv (Val.load_one rfl (.head _) ty_28 rfl) ?_
  refine lv (Val.len_sl rfl sl_28) ?_
  refine cn rfl ?_ ?_
  ·intro c0'
   refine st ?_
   refine RunC.ret ?_
   refine RunE.pass_ret ?_
   exact RunE.retP (.r1 rfl (.tmp rfl)) (by first | (rw [cb_ne (show c.pl.loans ≠ d.pl.loans from ne_at hk hk2 hx hy (by rintro rfl; simp_all))]; done) | (rw [cb_ne (show c.pl.loans ≠ d.pl.loans from ne_len (show c.loans.l.length ≠ d.loans.l.length by omega))]; done) | (rw [cb_same (show c.pl.loans = d.pl.loans from eq_end (show c.loans.l.length = d.loans.l.length by omega) kI)]; exact congrArg Value.bool (by rw [Bool.and_assoc]; rfl)))
  intro c0'
  refine st ?_
  refine RunC.loopK (c.loans.l.length) (fun k q => (5, .int .i64 (k : Int)) :: q) (fun _ => _) (fun _ => []) (fun k => c.loans.l.take k = d.loans.l.take k) (by simp) rfl (Sub.consE (t := 5) rfl rfl (Sub.cons (t := 2) rfl (Sub.cons (t := 3) rfl (Sub.nil _)))) (.cons .here rfl (.cons .here rfl .nil)) ?_
  intro k kN kI
  refine st ?_
  refine lv (Val.fieldAddr rfl fld_30_3) ?_
  refine lv (Val.load_one rfl (.tail _ (.head _)) ty_28 rfl) ?_
  refine lv (Val.len_sl rfl sl_28) ?_
  refine cn rfl ?_ ?_
  ·intro c1'
   have hk : k < c.loans.l.length := by omega
   have hk2 : k < d.loans.l.length := by omega
   obtain ⟨x, hx⟩ : ∃ x, c.loans.l[k] = x := ⟨_, rfl⟩
   obtain ⟨y, hy⟩ : ∃ y, d.loans.l[k] = y := ⟨_, rfl⟩
   refine st ?_
   refine RunC.draw 10 fol_ (.cons .here rfl (.cons .here rfl .nil)) ?_
   refine va 0 rfl (Val.fieldAddr rfl fld_30_3) rfl rfl rfl (.cons .here rfl (.cons .here rfl .nil)) rfl ?_
   refine va 1 rfl (Val.load_one rfl (.tail _ (.head _)) ty_28 rfl) rfl rfl rfl (.cons .here rfl (.cons .here rfl .nil)) rfl ?_
   refine va 2 rfl (Val.pure rfl) rfl rfl rfl (.cons .here rfl (.cons .here rfl .nil)) rfl ?_
   refine va 3 rfl (Val.indexAddr_slp rfl rfl sl_28 (by omega) (by omega) (Sl.ptrM hC.loans hk)) rfl rfl rfl (.cons .here rfl (.cons .here rfl .nil)) rfl ?_
   refine va 4 rfl (Val.load_gen rfl (fun w hm => Sl.loadX hC.loans (by decide) hm (by simp) ty_98 hk hx)) rfl rfl rfl (.cons .here rfl (.cons .here rfl .nil)) rfl ?_
   refine va 5 rfl (Val.fieldAddr rfl fld_30_3) rfl rfl rfl (.cons .here rfl (.cons .here rfl .nil)) rfl ?_
   refine va 6 rfl (Val.load_one rfl (.head _) ty_28 rfl) rfl rfl rfl (.cons .here rfl (.cons .here rfl .nil)) rfl ?_
   refine va 7 rfl (Val.pure rfl) rfl rfl rfl (.cons .here rfl (.cons .here rfl .nil)) rfl ?_
   refine va 8 rfl (Val.indexAddr_slp rfl rfl sl_28 (by omega) (by omega) (Sl.ptrM hD.loans hk2)) rfl rfl rfl (.cons .here rfl (.cons .here rfl .nil)) rfl ?_
   refine va 9 rfl (Val.load_gen rfl (fun w hm => Sl.loadX hD.loans (by decide) hm (by simp) ty_98 hk2 hy)) rfl rfl rfl (.cons .here rfl (.cons .here rfl .nil)) rfl ?_
   refine RunA.toB (by kernel_rfl) ?_
   refine RunB.one (i := 10) (by kernel_rfl) ?_
   refine RunI.val rfl (Val.neq_flat rfl rfl eqB_98 (kl_98 _ _ _ _ _ _ _ _ )) rfl rfl rfl (RunK.toB ?_)
   refine RunB.done (by kernel_rfl) ?_
   refine st ?_
   refine cn rfl ?_ ?_
   ·intro c2'
    refine st ?_
    refine RunC.ret ?_
    refine RunE.block_ret ?_
    refine RunE.pass_ret ?_
    refine RunE.pass_ret ?_
    refine RunE.block_ret ?_
    refine RunE.pass_ret ?_
    exact RunE.retP (.r1 rfl (.tmp rfl)) (by first | (rw [cb_ne (show c.pl.loans ≠ d.pl.loans from ne_at hk hk2 hx hy (by rintro rfl; simp_all))]; done) | (rw [cb_ne (show c.pl.loans ≠ d.pl.loans from ne_len (show c.loans.l.length ≠ d.loans.l.length by omega))]; done) | (rw [cb_same (show c.pl.loans = d.pl.loans from eq_end (show c.loans.l.length = d.loans.l.length by omega) kI)]; exact congrArg Value.bool (by rw [Bool.and_assoc]; rfl)))
   intro c2'
   refine st ?_
   refine lv (Val.add rfl rfl (IntWalk.i64_in _ ⟨by omega, by omega⟩)) ?_
   exact RunE.round (by omega) (eqT_step hk hk2 hx hy kI (by cases x; cases y; simp_all)) rfl (Sub.consE (t := 5) rfl rfl (Sub.cons (t := 2) rfl (Sub.cons (t := 3) rfl (Sub.nil _)))) (.cons .here rfl (.cons .here rfl .nil))
  intro c1'
  obtain rfl : k = c.loans.l.length := by omega
  refine RunC.exit ?_
  refine RunE.pass_exit ?_
  refine RunE.pass_exit ?_
  refine RunE.block_here ?_
  refine st ?_
  refine lv (Val.fieldAddr rfl fld_30_0) ?_
  refine lv (Val.load_one rfl (.tail _ (.head _)) ty_3 rfl) ?_
  refine lv (Val.fieldAddr rfl fld_30_0) ?_
  refine lv (Val.load_one rfl (.head _) ty_3 rfl) ?_
  refine RunL.andPart (dj := 36) (dp := 42) 6 rfl (fun g36 => by
    have g36' := g36
    try simp only [nH] at g36'
    refine lv (Val.fieldAddr rfl fld_30_2) ?_
    refine lv (Val.load_one rfl (.tail _ (.head _)) ty_3 rfl) ?_
    refine lv (Val.fieldAddr rfl fld_30_2) ?_
    refine RunL.val (Val.load_one rfl (.head _) ty_3 rfl) rfl rfl rfl ?_
    refine sv ?_
    exact RunL.segEnd (Sub.cons rfl (Sub.skip rfl (Sub.skip rfl (Sub.skip rfl (Sub.skip rfl (Sub.skip rfl (Sub.skip rfl (Sub.same rfl (by rw [g36]) (Sub.refl _))))))))) (List.Sublist.refl _)
  ) (fun g36 => by
    have g36' := g36
    try simp only [nH] at g36'
    iterate 5 refine RunL.no rfl rfl rfl ?_
    refine sv ?_
    exact RunL.segEnd (Sub.cons rfl (Sub.skip rfl (Sub.skip rfl (Sub.skip rfl (Sub.skip rfl (Sub.skip rfl (Sub.skip rfl (Sub.same rfl (by rw [g36]) (Sub.refl _))))))))) (List.Sublist.refl _)
  ) ?_
  refine st ?_
  refine RunL.andPart (dj := 43) (dp := 49) 6 rfl (fun g43 => by
    have g43' := g43
    try simp only [nH] at g43'
    refine lv (Val.fieldAddr rfl fld_30_1) ?_
    refine lv (Val.load_one rfl (.tail _ (.head _)) ty_27 rfl) ?_
    refine lv (Val.fieldAddr rfl fld_30_1) ?_
    refine lv (Val.load_one rfl (.head _) ty_27 rfl) ?_
    refine RunL.callP (isCall_func rfl ent_58) rfl rfl rfl (fun w hm => (rsameInts_calls c.homes d.homes w (hC.homes.mono0 (by decide) hm) (hD.homes.mono0 (by decide) hm) (by omega) (by omega))) ?_
    refine sv ?_
    exact RunL.segEnd (Sub.cons rfl (Sub.skip rfl (Sub.skip rfl (Sub.skip rfl (Sub.skip rfl (Sub.skip rfl (Sub.skip rfl (Sub.same rfl (by rw [g43]) (Sub.refl _))))))))) (List.Sublist.refl _)
  ) (fun g43 => by
    have g43' := g43
    try simp only [nH] at g43'
    iterate 5 refine RunL.no rfl rfl rfl ?_
    refine sv ?_
    exact RunL.segEnd (Sub.cons rfl (Sub.skip rfl (Sub.skip rfl (Sub.skip rfl (Sub.skip rfl (Sub.skip rfl (Sub.skip rfl (Sub.same rfl (by rw [g43]) (Sub.refl _))))))))) (List.Sublist.refl _)
  ) ?_
  refine st ?_
  refine RunC.ret ?_
  exact RunE.retP (.r1 rfl (.tmp rfl)) (by first | (rw [cb_ne (show c.pl.loans ≠ d.pl.loans from ne_at hk hk2 hx hy (by rintro rfl; simp_all))]; done) | (rw [cb_ne (show c.pl.loans ≠ d.pl.loans from ne_len (show c.loans.l.length ≠ d.loans.l.length by omega))]; done) | (rw [cb_same (show c.pl.loans = d.pl.loans from eq_end (show c.loans.l.length = d.loans.l.length by omega) kI)]; exact congrArg Value.bool (by rw [Bool.and_assoc]; rfl)))
theorem rsameRoyal_calls (r q : RyA) (hs : RySm r) (hs2 : RySm q) (W : World) (hR : RyOk W r) (hQ : RyOk W q) : Calls Tryz.prog 24 #[r.v, q.v] W (Pure (.bool (decide (r.pl = q.pl))) W) := by
  obtain ⟨s1, s2, s3, s4, s5, s6⟩ := id hs
  obtain ⟨u1, u2, u3, u4, u5, u6⟩ := id hs2
  refine calls_start Tryz.func24 rfl rfl ?_
  refine st ?_
  refine RunL.new (New.box rfl) rfl rfl rfl (fun b2 => ?_)
  refine RunL.new (New.box rfl) rfl rfl rfl (fun b3 => ?_)
  refine st ?_
  refine lv (Val.fieldAddr rfl fld_35_0) ?_
  refine lv (Val.load_one rfl (.tail _ (.head _)) ty_31 rfl) ?_
  refine lv (Val.len_sl rfl sl_31) ?_
  refine lv (Val.fieldAddr rfl fld_35_0) ?_
  refine lv (Val.load_one rfl (.head _) ty_31 rfl) ?_
  refine lv (Val.len_sl rfl sl_31) ?_
  refine RunL.orPart (dj := 15) (dp := 23) 8 rfl (fun g15 => by
    have g15' := g15
    try simp only [nH] at g15'
    refine lv (Val.fieldAddr rfl fld_35_2) ?_
    refine lv (Val.load_one rfl (.tail _ (.head _)) ty_32 rfl) ?_
    refine lv (Val.len_sl rfl sl_32) ?_
    refine lv (Val.fieldAddr rfl fld_35_2) ?_
    refine lv (Val.load_one rfl (.head _) ty_32 rfl) ?_
    refine RunL.val (Val.len_sl rfl sl_32) rfl rfl rfl ?_
    refine sv ?_
    exact RunL.segEnd (Sub.cons rfl (Sub.skip rfl (Sub.skip rfl (Sub.skip rfl (Sub.skip rfl (Sub.skip rfl (Sub.skip rfl (Sub.skip rfl (Sub.skip rfl (Sub.same rfl (by rw [g15]) (Sub.refl _))))))))))) (List.Sublist.refl _)
  ) (fun g15 => by
    have g15' := g15
    try simp only [nH] at g15'
    iterate 7 refine RunL.no rfl rfl rfl ?_
    refine sv ?_
    exact RunL.segEnd (Sub.cons rfl (Sub.skip rfl (Sub.skip rfl (Sub.skip rfl (Sub.skip rfl (Sub.skip rfl (Sub.skip rfl (Sub.skip rfl (Sub.skip rfl (Sub.same rfl (by rw [g15]) (Sub.refl _))))))))))) (List.Sublist.refl _)
  ) ?_
  refine st ?_
  refine RunL.orPart (dj := 24) (dp := 32) 8 rfl (fun g24 => by
    have g24' := g24
    try simp only [nH] at g24'
    refine lv (Val.fieldAddr rfl fld_35_3) ?_
    refine lv (Val.load_one rfl (.tail _ (.head _)) ty_33 rfl) ?_
    refine lv (Val.len_sl rfl sl_33) ?_
    refine lv (Val.fieldAddr rfl fld_35_3) ?_
    refine lv (Val.load_one rfl (.head _) ty_33 rfl) ?_
    refine RunL.val (Val.len_sl rfl sl_33) rfl rfl rfl ?_
    refine sv ?_
    exact RunL.segEnd (Sub.cons rfl (Sub.skip rfl (Sub.skip rfl (Sub.skip rfl (Sub.skip rfl (Sub.skip rfl (Sub.skip rfl (Sub.skip rfl (Sub.skip rfl (Sub.same rfl (by rw [g24]) (Sub.refl _))))))))))) (List.Sublist.refl _)
  ) (fun g24 => by
    have g24' := g24
    try simp only [nH] at g24'
    iterate 7 refine RunL.no rfl rfl rfl ?_
    refine sv ?_
    exact RunL.segEnd (Sub.cons rfl (Sub.skip rfl (Sub.skip rfl (Sub.skip rfl (Sub.skip rfl (Sub.skip rfl (Sub.skip rfl (Sub.skip rfl (Sub.skip rfl (Sub.same rfl (by rw [g24]) (Sub.refl _))))))))))) (List.Sublist.refl _)
  ) ?_
  refine st ?_
  refine cn rfl ?_ ?_
  ·intro c0'
   refine st ?_
   refine RunC.ret ?_
   refine RunE.pass_ret ?_
   exact RunE.retP (.r1 rfl (.tmp rfl)) (by first | (rw [ry_same f1 f2 f3]; rfl) | (rw [ry_ne3 (show r.pl.reports ≠ q.pl.reports from ne_at hk hk2 hx hy (by rintro rfl; simp_all))]; done) | (rw [ry_ne2 (show r.pl.shares ≠ q.pl.shares from mapT_ne hk hk2 hx hy (by simp_all))]; done) | (rw [ry_ne1 (show r.pl.terms ≠ q.pl.terms from ne_at hk hk2 hx hy (by rintro rfl; simp_all))]; done) | (refine congrArg Value.bool (decide_eq_false fun e => ?_).symm; have d1 : r.terms.l.length = q.terms.l.length := congrArg (fun z : Ry => z.terms.length) e; have d2 : r.pl.shares.length = q.pl.shares.length := congrArg (fun z : Ry => z.shares.length) e; have d3 : r.reports.l.length = q.reports.l.length := congrArg (fun z : Ry => z.reports.length) e; simp only [RyA.pl, List.length_map] at d2; simp_all; done))
  intro c0'
  have e1 : r.terms.l.length = q.terms.l.length := by (have := c0'.1.1; omega)
  have e2 : r.shares.l.length = q.shares.l.length := by (have := c0'.1.2; omega)
  have e3 : r.reports.l.length = q.reports.l.length := by (have := c0'.2; omega)
  refine st ?_
  refine RunC.loopK (r.terms.l.length) (fun k q => (5, .int .i64 (k : Int)) :: q) (fun _ => _) (fun _ => []) (fun k => r.terms.l.take k = q.terms.l.take k) (by simp) rfl (Sub.consE (t := 5) rfl rfl (Sub.cons (t := 2) rfl (Sub.cons (t := 3) rfl (Sub.nil _)))) (.cons .here rfl (.cons .here rfl .nil)) ?_
  intro k kN kI
  refine st ?_
  refine lv (Val.fieldAddr rfl fld_35_0) ?_
  refine lv (Val.load_one rfl (.tail _ (.head _)) ty_31 rfl) ?_
  refine lv (Val.len_sl rfl sl_31) ?_
  refine cn rfl ?_ ?_
  ·intro c1'
   have hk : k < r.terms.l.length := by omega
   have hk2 : k < q.terms.l.length := by omega
   obtain ⟨x, hx⟩ : ∃ x, r.terms.l[k] = x := ⟨_, rfl⟩
   obtain ⟨y, hy⟩ : ∃ y, q.terms.l[k] = y := ⟨_, rfl⟩
   refine st ?_
   refine RunC.draw 10 fol_ (.cons .here rfl (.cons .here rfl .nil)) ?_
   refine va 0 rfl (Val.fieldAddr rfl fld_35_0) rfl rfl rfl (.cons .here rfl (.cons .here rfl .nil)) rfl ?_
   refine va 1 rfl (Val.load_one rfl (.tail _ (.head _)) ty_31 rfl) rfl rfl rfl (.cons .here rfl (.cons .here rfl .nil)) rfl ?_
   refine va 2 rfl (Val.pure rfl) rfl rfl rfl (.cons .here rfl (.cons .here rfl .nil)) rfl ?_
   refine va 3 rfl (Val.indexAddr_slp rfl rfl sl_31 (by omega) (by omega) (Sl.ptrM hR.terms hk)) rfl rfl rfl (.cons .here rfl (.cons .here rfl .nil)) rfl ?_
   refine va 4 rfl (Val.load_gen rfl (fun w hm => Sl.loadX hR.terms (by decide) hm (by simp) ty_109 hk hx)) rfl rfl rfl (.cons .here rfl (.cons .here rfl .nil)) rfl ?_
   refine va 5 rfl (Val.fieldAddr rfl fld_35_0) rfl rfl rfl (.cons .here rfl (.cons .here rfl .nil)) rfl ?_
   refine va 6 rfl (Val.load_one rfl (.head _) ty_31 rfl) rfl rfl rfl (.cons .here rfl (.cons .here rfl .nil)) rfl ?_
   refine va 7 rfl (Val.pure rfl) rfl rfl rfl (.cons .here rfl (.cons .here rfl .nil)) rfl ?_
   refine va 8 rfl (Val.indexAddr_slp rfl rfl sl_31 (by omega) (by omega) (Sl.ptrM hQ.terms hk2)) rfl rfl rfl (.cons .here rfl (.cons .here rfl .nil)) rfl ?_
   refine va 9 rfl (Val.load_gen rfl (fun w hm => Sl.loadX hQ.terms (by decide) hm (by simp) ty_109 hk2 hy)) rfl rfl rfl (.cons .here rfl (.cons .here rfl .nil)) rfl ?_
   refine RunA.toB (by kernel_rfl) ?_
   refine RunB.one (i := 10) (by kernel_rfl) ?_
   refine RunI.val rfl (Val.neq_flat rfl rfl eqB_109 (kl_109 _ _ _ _ _ _ )) rfl rfl rfl (RunK.toB ?_)
   refine RunB.done (by kernel_rfl) ?_
   refine st ?_
   refine cn rfl ?_ ?_
   ·intro c2'
    refine st ?_
    refine RunC.ret ?_
    refine RunE.block_ret ?_
    refine RunE.pass_ret ?_
    refine RunE.pass_ret ?_
    refine RunE.block_ret ?_
    refine RunE.pass_ret ?_
    exact RunE.retP (.r1 rfl (.tmp rfl)) (by first | (rw [ry_same f1 f2 f3]; rfl) | (rw [ry_ne3 (show r.pl.reports ≠ q.pl.reports from ne_at hk hk2 hx hy (by rintro rfl; simp_all))]; done) | (rw [ry_ne2 (show r.pl.shares ≠ q.pl.shares from mapT_ne hk hk2 hx hy (by simp_all))]; done) | (rw [ry_ne1 (show r.pl.terms ≠ q.pl.terms from ne_at hk hk2 hx hy (by rintro rfl; simp_all))]; done) | (refine congrArg Value.bool (decide_eq_false fun e => ?_).symm; have d1 : r.terms.l.length = q.terms.l.length := congrArg (fun z : Ry => z.terms.length) e; have d2 : r.pl.shares.length = q.pl.shares.length := congrArg (fun z : Ry => z.shares.length) e; have d3 : r.reports.l.length = q.reports.l.length := congrArg (fun z : Ry => z.reports.length) e; simp only [RyA.pl, List.length_map] at d2; simp_all; done))
   intro c2'
   refine st ?_
   refine lv (Val.add rfl rfl (IntWalk.i64_in _ ⟨by omega, by omega⟩)) ?_
   exact RunE.round (by omega) (eqT_step hk hk2 hx hy kI (by cases x; cases y; simp_all)) rfl (Sub.consE (t := 5) rfl rfl (Sub.cons (t := 2) rfl (Sub.cons (t := 3) rfl (Sub.nil _)))) (.cons .here rfl (.cons .here rfl .nil))
  intro c1'
  obtain rfl : k = r.terms.l.length := by omega
  have f1 : r.pl.terms = q.pl.terms := eq_end e1 kI
  clear kI kN
  refine RunC.exit ?_
  refine RunE.pass_exit ?_
  refine RunE.pass_exit ?_
  refine RunE.block_here ?_
  refine st ?_
  refine RunC.loopK (r.shares.l.length) (fun k q => (6, .int .i64 (k : Int)) :: q) (fun _ => _) (fun _ => []) (fun k => (r.shares.l.map (·.l)).take k = (q.shares.l.map (·.l)).take k) (by simp) rfl (Sub.consE (t := 6) rfl rfl (Sub.cons (t := 2) rfl (Sub.cons (t := 3) rfl (Sub.nil _)))) (.cons .here rfl (.cons .here rfl .nil)) ?_
  intro k kN kI
  refine st ?_
  refine lv (Val.fieldAddr rfl fld_35_2) ?_
  refine lv (Val.load_one rfl (.tail _ (.head _)) ty_32 rfl) ?_
  refine lv (Val.len_sl rfl sl_32) ?_
  refine cn rfl ?_ ?_
  ·intro c3'
   have hk : k < r.shares.l.length := by omega
   have hk2 : k < q.shares.l.length := by omega
   obtain ⟨x, hx⟩ : ∃ x, r.shares.l[k] = x := ⟨_, rfl⟩
   obtain ⟨y, hy⟩ : ∃ y, q.shares.l[k] = y := ⟨_, rfl⟩
   have hxm : x ∈ r.shares.l := hx ▸ List.getElem_mem hk
   have hym : y ∈ q.shares.l := hy ▸ List.getElem_mem hk2
   refine st ?_
   refine RunC.draw 10 fol_ (.cons .here rfl (.cons .here rfl .nil)) ?_
   refine va 0 rfl (Val.fieldAddr rfl fld_35_2) rfl rfl rfl (.cons .here rfl (.cons .here rfl .nil)) rfl ?_
   refine va 1 rfl (Val.load_one rfl (.tail _ (.head _)) ty_32 rfl) rfl rfl rfl (.cons .here rfl (.cons .here rfl .nil)) rfl ?_
   refine va 2 rfl (Val.pure rfl) rfl rfl rfl (.cons .here rfl (.cons .here rfl .nil)) rfl ?_
   refine va 3 rfl (Val.indexAddr_slp rfl rfl sl_32 (by omega) (by omega) (Sl.ptrM hR.shares hk)) rfl rfl rfl (.cons .here rfl (.cons .here rfl .nil)) rfl ?_
   refine va 4 rfl (Val.load_gen rfl (fun w hm => Sl.loadM1 hR.shares (by decide) hm (by simp) ty_27 hk (v := x.v) (by simp [SA.cell, hx]))) rfl rfl rfl (.cons .here rfl (.cons .here rfl .nil)) rfl ?_
   refine va 5 rfl (Val.fieldAddr rfl fld_35_2) rfl rfl rfl (.cons .here rfl (.cons .here rfl .nil)) rfl ?_
   refine va 6 rfl (Val.load_one rfl (.head _) ty_32 rfl) rfl rfl rfl (.cons .here rfl (.cons .here rfl .nil)) rfl ?_
   refine va 7 rfl (Val.pure rfl) rfl rfl rfl (.cons .here rfl (.cons .here rfl .nil)) rfl ?_
   refine va 8 rfl (Val.indexAddr_slp rfl rfl sl_32 (by omega) (by omega) (Sl.ptrM hQ.shares hk2)) rfl rfl rfl (.cons .here rfl (.cons .here rfl .nil)) rfl ?_
   refine va 9 rfl (Val.load_gen rfl (fun w hm => Sl.loadM1 hQ.shares (by decide) hm (by simp) ty_27 hk2 (v := y.v) (by simp [SA.cell, hy]))) rfl rfl rfl (.cons .here rfl (.cons .here rfl .nil)) rfl ?_
   refine RunA.toB (by kernel_rfl) ?_
   refine RunB.one (i := 10) (by kernel_rfl) ?_
   refine RunI.callP rfl (isCall_func rfl ent_58) rfl rfl rfl (fun w hm => (rsameInts_calls x y w ((hR.rows x hxm).mono0 (by decide) hm) ((hQ.rows y hym).mono0 (by decide) hm) (by have := s4 x hxm; omega) (by have := u4 y hym; omega))) (RunK.toB ?_)
   refine RunB.one (i := 11) (by kernel_rfl) ?_
   refine RunI.val rfl (Val.pure rfl) rfl rfl rfl (RunK.toB ?_)
   refine RunB.done (by kernel_rfl) ?_
   refine st ?_
   refine cn rfl ?_ ?_
   ·intro c4'
    refine st ?_
    refine RunC.ret ?_
    refine RunE.block_ret ?_
    refine RunE.pass_ret ?_
    refine RunE.pass_ret ?_
    refine RunE.block_ret ?_
    refine RunE.pass_ret ?_
    exact RunE.retP (.r1 rfl (.tmp rfl)) (by first | (rw [ry_same f1 f2 f3]; rfl) | (rw [ry_ne3 (show r.pl.reports ≠ q.pl.reports from ne_at hk hk2 hx hy (by rintro rfl; simp_all))]; done) | (rw [ry_ne2 (show r.pl.shares ≠ q.pl.shares from mapT_ne hk hk2 hx hy (by simp_all))]; done) | (rw [ry_ne1 (show r.pl.terms ≠ q.pl.terms from ne_at hk hk2 hx hy (by rintro rfl; simp_all))]; done) | (refine congrArg Value.bool (decide_eq_false fun e => ?_).symm; have d1 : r.terms.l.length = q.terms.l.length := congrArg (fun z : Ry => z.terms.length) e; have d2 : r.pl.shares.length = q.pl.shares.length := congrArg (fun z : Ry => z.shares.length) e; have d3 : r.reports.l.length = q.reports.l.length := congrArg (fun z : Ry => z.reports.length) e; simp only [RyA.pl, List.length_map] at d2; simp_all; done))
   intro c4'
   refine st ?_
   refine lv (Val.add rfl rfl (IntWalk.i64_in _ ⟨by omega, by omega⟩)) ?_
   exact RunE.round (by omega) (mapT_step hk hk2 hx hy kI (by simp_all)) rfl (Sub.consE (t := 6) rfl rfl (Sub.cons (t := 2) rfl (Sub.cons (t := 3) rfl (Sub.nil _)))) (.cons .here rfl (.cons .here rfl .nil))
  intro c3'
  obtain rfl : k = r.shares.l.length := by omega
  have f2 : r.pl.shares = q.pl.shares := eq_end (show (r.shares.l.map (·.l)).length = (q.shares.l.map (·.l)).length by simp only [List.length_map]; omega) (by show List.take (r.shares.l.map (·.l)).length (r.shares.l.map (·.l)) = List.take (r.shares.l.map (·.l)).length (q.shares.l.map (·.l)); rw [List.length_map]; exact kI)
  clear kI kN
  refine RunC.exit ?_
  refine RunE.pass_exit ?_
  refine RunE.pass_exit ?_
  refine RunE.block_here ?_
  refine st ?_
  refine RunC.loopK (r.reports.l.length) (fun k q => (7, .int .i64 (k : Int)) :: q) (fun _ => _) (fun _ => []) (fun k => r.reports.l.take k = q.reports.l.take k) (by simp) rfl (Sub.consE (t := 7) rfl rfl (Sub.cons (t := 2) rfl (Sub.cons (t := 3) rfl (Sub.nil _)))) (.cons .here rfl (.cons .here rfl .nil)) ?_
  intro k kN kI
  refine st ?_
  refine lv (Val.fieldAddr rfl fld_35_3) ?_
  refine lv (Val.load_one rfl (.tail _ (.head _)) ty_33 rfl) ?_
  refine lv (Val.len_sl rfl sl_33) ?_
  refine cn rfl ?_ ?_
  ·intro c5'
   have hk : k < r.reports.l.length := by omega
   have hk2 : k < q.reports.l.length := by omega
   obtain ⟨x, hx⟩ : ∃ x, r.reports.l[k] = x := ⟨_, rfl⟩
   obtain ⟨y, hy⟩ : ∃ y, q.reports.l[k] = y := ⟨_, rfl⟩
   refine st ?_
   refine RunC.draw 10 fol_ (.cons .here rfl (.cons .here rfl .nil)) ?_
   refine va 0 rfl (Val.fieldAddr rfl fld_35_3) rfl rfl rfl (.cons .here rfl (.cons .here rfl .nil)) rfl ?_
   refine va 1 rfl (Val.load_one rfl (.tail _ (.head _)) ty_33 rfl) rfl rfl rfl (.cons .here rfl (.cons .here rfl .nil)) rfl ?_
   refine va 2 rfl (Val.pure rfl) rfl rfl rfl (.cons .here rfl (.cons .here rfl .nil)) rfl ?_
   refine va 3 rfl (Val.indexAddr_slp rfl rfl sl_33 (by omega) (by omega) (Sl.ptrM hR.reports hk)) rfl rfl rfl (.cons .here rfl (.cons .here rfl .nil)) rfl ?_
   refine va 4 rfl (Val.load_gen rfl (fun w hm => Sl.loadX hR.reports (by decide) hm (by simp) ty_111 hk hx)) rfl rfl rfl (.cons .here rfl (.cons .here rfl .nil)) rfl ?_
   refine va 5 rfl (Val.fieldAddr rfl fld_35_3) rfl rfl rfl (.cons .here rfl (.cons .here rfl .nil)) rfl ?_
   refine va 6 rfl (Val.load_one rfl (.head _) ty_33 rfl) rfl rfl rfl (.cons .here rfl (.cons .here rfl .nil)) rfl ?_
   refine va 7 rfl (Val.pure rfl) rfl rfl rfl (.cons .here rfl (.cons .here rfl .nil)) rfl ?_
   refine va 8 rfl (Val.indexAddr_slp rfl rfl sl_33 (by omega) (by omega) (Sl.ptrM hQ.reports hk2)) rfl rfl rfl (.cons .here rfl (.cons .here rfl .nil)) rfl ?_
   refine va 9 rfl (Val.load_gen rfl (fun w hm => Sl.loadX hQ.reports (by decide) hm (by simp) ty_111 hk2 hy)) rfl rfl rfl (.cons .here rfl (.cons .here rfl .nil)) rfl ?_
   refine RunA.toB (by kernel_rfl) ?_
   refine RunB.one (i := 10) (by kernel_rfl) ?_
   refine RunI.val rfl (Val.neq_flat rfl rfl eqB_111 (kl_111 _ _ _ _ _ _ _ _ )) rfl rfl rfl (RunK.toB ?_)
   refine RunB.done (by kernel_rfl) ?_
   refine st ?_
   refine cn rfl ?_ ?_
   ·intro c6'
    refine st ?_
    refine RunC.ret ?_
    refine RunE.block_ret ?_
    refine RunE.pass_ret ?_
    refine RunE.pass_ret ?_
    refine RunE.block_ret ?_
    refine RunE.pass_ret ?_
    exact RunE.retP (.r1 rfl (.tmp rfl)) (by first | (rw [ry_same f1 f2 f3]; rfl) | (rw [ry_ne3 (show r.pl.reports ≠ q.pl.reports from ne_at hk hk2 hx hy (by rintro rfl; simp_all))]; done) | (rw [ry_ne2 (show r.pl.shares ≠ q.pl.shares from mapT_ne hk hk2 hx hy (by simp_all))]; done) | (rw [ry_ne1 (show r.pl.terms ≠ q.pl.terms from ne_at hk hk2 hx hy (by rintro rfl; simp_all))]; done) | (refine congrArg Value.bool (decide_eq_false fun e => ?_).symm; have d1 : r.terms.l.length = q.terms.l.length := congrArg (fun z : Ry => z.terms.length) e; have d2 : r.pl.shares.length = q.pl.shares.length := congrArg (fun z : Ry => z.shares.length) e; have d3 : r.reports.l.length = q.reports.l.length := congrArg (fun z : Ry => z.reports.length) e; simp only [RyA.pl, List.length_map] at d2; simp_all; done))
   intro c6'
   refine st ?_
   refine lv (Val.add rfl rfl (IntWalk.i64_in _ ⟨by omega, by omega⟩)) ?_
   exact RunE.round (by omega) (eqT_step hk hk2 hx hy kI (by cases x; cases y; simp_all)) rfl (Sub.consE (t := 7) rfl rfl (Sub.cons (t := 2) rfl (Sub.cons (t := 3) rfl (Sub.nil _)))) (.cons .here rfl (.cons .here rfl .nil))
  intro c5'
  obtain rfl : k = r.reports.l.length := by omega
  have f3 : r.pl.reports = q.pl.reports := eq_end e3 kI
  refine RunC.exit ?_
  refine RunE.pass_exit ?_
  refine RunE.pass_exit ?_
  refine RunE.block_here ?_
  refine st ?_
  refine lv (Val.fieldAddr rfl fld_35_1) ?_
  refine lv (Val.load_one rfl (.tail _ (.head _)) ty_27 rfl) ?_
  refine lv (Val.fieldAddr rfl fld_35_1) ?_
  refine lv (Val.load_one rfl (.head _) ty_27 rfl) ?_
  refine RunL.callP (isCall_func rfl ent_58) rfl rfl rfl (fun w hm => (rsameInts_calls r.prices q.prices w (hR.prices.mono0 (by decide) hm) (hQ.prices.mono0 (by decide) hm) (by omega) (by omega))) ?_
  refine st ?_
  refine RunL.andPart (dj := 93) (dp := 99) 6 rfl (fun g93 => by
    have g93' := g93
    try simp only [nH] at g93'
    refine lv (Val.fieldAddr rfl fld_35_4) ?_
    refine lv (Val.load_one rfl (.tail _ (.head _)) ty_27 rfl) ?_
    refine lv (Val.fieldAddr rfl fld_35_4) ?_
    refine lv (Val.load_one rfl (.head _) ty_27 rfl) ?_
    refine RunL.callP (isCall_func rfl ent_58) rfl rfl rfl (fun w hm => (rsameInts_calls r.paid q.paid w (hR.paid.mono0 (by decide) hm) (hQ.paid.mono0 (by decide) hm) (by omega) (by omega))) ?_
    refine sv ?_
    exact RunL.segEnd (Sub.cons rfl (Sub.skip rfl (Sub.skip rfl (Sub.skip rfl (Sub.skip rfl (Sub.skip rfl (Sub.skip rfl (Sub.same rfl (by rw [g93]) (Sub.refl _))))))))) (List.Sublist.refl _)
  ) (fun g93 => by
    have g93' := g93
    try simp only [nH] at g93'
    iterate 5 refine RunL.no rfl rfl rfl ?_
    refine sv ?_
    exact RunL.segEnd (Sub.cons rfl (Sub.skip rfl (Sub.skip rfl (Sub.skip rfl (Sub.skip rfl (Sub.skip rfl (Sub.skip rfl (Sub.same rfl (by rw [g93]) (Sub.refl _))))))))) (List.Sublist.refl _)
  ) ?_
  refine st ?_
  refine RunC.ret ?_
  exact RunE.retP (.r1 rfl (.tmp rfl)) (by first | (rw [ry_same f1 f2 f3]; rfl) | (rw [ry_ne3 (show r.pl.reports ≠ q.pl.reports from ne_at hk hk2 hx hy (by rintro rfl; simp_all))]; done) | (rw [ry_ne2 (show r.pl.shares ≠ q.pl.shares from mapT_ne hk hk2 hx hy (by simp_all))]; done) | (rw [ry_ne1 (show r.pl.terms ≠ q.pl.terms from ne_at hk hk2 hx hy (by rintro rfl; simp_all))]; done) | (refine congrArg Value.bool (decide_eq_false fun e => ?_).symm; have d1 : r.terms.l.length = q.terms.l.length := congrArg (fun z : Ry => z.terms.length) e; have d2 : r.pl.shares.length = q.pl.shares.length := congrArg (fun z : Ry => z.shares.length) e; have d3 : r.reports.l.length = q.reports.l.length := congrArg (fun z : Ry => z.reports.length) e; simp only [RyA.pl, List.length_map] at d2; simp_all; done))
end Go.Proofs.YtleamcmljcdapaaGreatDoor
namespace Go.Bk
open Go Go.Eng Go.RowKit
def len0 (t : Tr) (c : Cb) (p : Ps) : Int := [(t.ways.length : Int), (t.stay.length : Int), (t.light.length : Int), (c.homes.length : Int), (c.loans.length : Int), (p.cards.length : Int)].foldl Max.max (t.fr.length : Int)
def len1 (t : Tr) (c : Cb) (r : Ry) (p : Ps) : Int := [(r.terms.length : Int), (r.paid.length : Int), (r.prices.length : Int), (r.shares.length : Int), (r.reports.length : Int)].foldl Max.max (len0 t c p)
def len2 {α : Type} (n : Int) (l : List (List α)) : Int := l.foldl (fun n x => Max.max n (x.length : Int)) n
theorem len2_s {α : Type} {n : Int} {l : List (List α)} {k : Nat} (hk : k < l.length) {x : List α} (hx : l[k] = x) : len2 n (l.take (k + 1)) = Max.max (len2 n (l.take k)) (x.length : Int) := by
  unfold len2
  rw [List.take_succ_eq_append_getElem hk, List.foldl_append, hx]
  rfl
theorem len2_le {α : Type} : ∀ (l : List (List α)) (n : Int), n ≤ len2 n l ∧ ∀ x ∈ l, (x.length : Int) ≤ len2 n l
  | [], n => ⟨Int.le_refl _, fun x h => by cases h⟩
  | y :: l, n => by
    obtain ⟨h1, h2⟩ := len2_le l (Max.max n (y.length : Int))
    have e : len2 n (y :: l) = len2 (Max.max n (y.length : Int)) l := rfl
    rw [e]
    refine ⟨by omega, fun x hx => ?_⟩
    rcases List.mem_cons.1 hx with rfl | hx
    · omega
    · exact h2 x hx
def lenX (t : Tr) (c : Cb) (r : Ry) (p : Ps) : Int := len2 (len2 (len1 t c r p) t.ways) r.shares
def greatX (t : Tr) (c : Cb) (r : Ry) (p : Ps) : Bool := decide (40 < lenX t c r p)
structure Few (t : Tr) (c : Cb) (r : Ry) (p : Ps) : Prop where
  fr : t.fr.length ≤ 40
  ways : t.ways.length ≤ 40
  rows : ∀ x ∈ t.ways, x.length ≤ 40
  stay : t.stay.length ≤ 40
  light : t.light.length ≤ 40
  homes : c.homes.length ≤ 40
  loans : c.loans.length ≤ 40
  cards : p.cards.length ≤ 40
  terms : r.terms.length ≤ 40
  paid : r.paid.length ≤ 40
  prices : r.prices.length ≤ 40
  shares : r.shares.length ≤ 40
  srows : ∀ x ∈ r.shares, x.length ≤ 40
  reports : r.reports.length ≤ 40
theorem few_of {t : Tr} {c : Cb} {r : Ry} {p : Ps} (h : greatX t c r p = false) : Few t c r p := by
  have h0 : lenX t c r p ≤ 40 := by have := of_decide_eq_false h; omega
  have h3 := len2_le r.shares (len2 (len1 t c r p) t.ways)
  have h2 := len2_le t.ways (len1 t c r p)
  have h1 := fold_max [(r.terms.length : Int), (r.paid.length : Int), (r.prices.length : Int), (r.shares.length : Int), (r.reports.length : Int)] (len0 t c p)
  have h4 := fold_max [(t.ways.length : Int), (t.stay.length : Int), (t.light.length : Int), (c.homes.length : Int), (c.loans.length : Int), (p.cards.length : Int)] (t.fr.length : Int)
  change _ ≤ lenX t c r p ∧ ∀ x ∈ r.shares, _ ≤ lenX t c r p at h3
  change _ ≤ len1 t c r p ∧ ∀ q ∈ _, q ≤ len1 t c r p at h1
  change _ ≤ len0 t c p ∧ ∀ q ∈ _, q ≤ len0 t c p at h4
  have m1 := h1.2
  have m4 := h4.2
  simp only [List.mem_cons, List.not_mem_nil, or_false, forall_eq_or_imp, forall_eq] at m1 m4
  refine ⟨?_, ?_, fun x hx => ?_, ?_, ?_, ?_, ?_, ?_, ?_, ?_, ?_, ?_, fun x hx => ?_, ?_⟩
  case refine_3 => have := h2.2 x hx; omega
  case refine_13 => have := h3.2 x hx; omega
  all_goals omega
/-! ### The examples -/
def exT : Tr := ⟨360, [⟨30, 40⟩, ⟨20, 20⟩, ⟨60, 70⟩], [[⟨0, 0⟩, ⟨15, 20⟩, ⟨45, 50⟩], [⟨15, 20⟩, ⟨0, 0⟩, ⟨30, 35⟩], [⟨45, 50⟩, ⟨30, 35⟩, ⟨0, 0⟩]], [⟨10, 15⟩, ⟨20, 20⟩, ⟨5, 10⟩], [⟨420, 480⟩, ⟨380, 600⟩, ⟨500, 540⟩]⟩
def exC : Cb := ⟨4, [0, 1, 2], 1, [⟨0, 0, 0, 0⟩, ⟨0, 1, 1, 0⟩, ⟨1, 0, 0, 0⟩, ⟨1, 1, 1, 0⟩, ⟨2, 0, 0, 1⟩]⟩
def exR : Ry := ⟨[⟨20, 3, 30⟩, ⟨25, 12, 25⟩], [99], [[334, 333, 333]], [⟨0, 0, 0, 5⟩, ⟨1, 0, 4, 7⟩], [0, 0]⟩
def exP : Ps := ⟨[⟨⟨100, 101⟩, ⟨500, 505⟩, 0⟩], ⟨3, 5⟩, ⟨10, 20⟩⟩
theorem exT_ok : tourX exT = true := by decide
theorem exC_ok : cabX exC = true := by decide
theorem exR_ok : royalX exR = true := by decide
theorem exP_ok : printsX exP = true := by decide
def dig (u : Nat) : Str := if u < 10 then [UInt8.ofNat (48 + u)] else if u < 100 then [UInt8.ofNat (48 + u / 10), UInt8.ofNat (48 + u % 10)] else [UInt8.ofNat (48 + u / 100), UInt8.ofNat (48 + u / 10 % 10), UInt8.ofNat (48 + u % 10)]
theorem dig_dec {u : Nat} (h : u < 1000) : Lib.decDigits u = dig u := by
  unfold dig
  split
  · rw [Lib.decDigits, dif_pos (by assumption)]
  · rename_i h1
    rw [Lib.decDigits, dif_neg h1]
    split
    · rw [Lib.decDigits, dif_pos (by omega)]
      rfl
    · rw [Lib.decDigits, dif_neg (by omega), Lib.decDigits, dif_pos (by omega)]
      have e : u / 10 / 10 = u / 100 := by omega
      rw [e]
      rfl
theorem itoa_dig {n : Int} (h : 0 ≤ n) (h2 : n < 1000) : Lib.itoa n = dig n.toNat := by
  unfold Lib.itoa
  rw [if_neg (by omega), dig_dec (by omega)]
def exTS : Str := [116, 111, 117, 114, 32, 51, 54, 48, 10, 102, 114, 111, 109, 32, 51, 48, 46, 46, 52, 48, 32, 50, 48, 46, 46, 50, 48, 32, 54, 48, 46, 46, 55, 48, 10, 119, 97, 121, 115, 32, 48, 46, 46, 48, 32, 49, 53, 46, 46, 50, 48, 32, 52, 53, 46, 46, 53, 48, 10, 119, 97, 121, 115, 32, 49, 53, 46, 46, 50, 48, 32, 48, 46, 46, 48, 32, 51, 48, 46, 46, 51, 53, 10, 119, 97, 121, 115, 32, 52, 53, 46, 46, 53, 48, 32, 51, 48, 46, 46, 51, 53, 32, 48, 46, 46, 48, 10, 115, 116, 97, 121, 32, 49, 48, 46, 46, 49, 53, 32, 50, 48, 46, 46, 50, 48, 32, 53, 46, 46, 49, 48, 10, 108, 105, 103, 104, 116, 32, 52, 50, 48, 46, 46, 52, 56, 48, 32, 51, 56, 48, 46, 46, 54, 48, 48, 32, 53, 48, 48, 46, 46, 53, 52, 48, 10]
def exCS : Str := [99, 97, 98, 105, 110, 101, 116, 32, 52, 32, 49, 10, 104, 111, 109, 101, 115, 32, 48, 32, 49, 32, 50, 10, 116, 97, 107, 101, 32, 48, 32, 48, 10, 116, 97, 107, 101, 32, 49, 32, 49, 10, 98, 97, 99, 107, 32, 48, 32, 48, 10, 98, 97, 99, 107, 32, 49, 32, 49, 10, 108, 111, 111, 107, 32, 49, 32, 48, 10]
def exRS : Str := [114, 111, 121, 97, 108, 10, 97, 103, 101, 110, 116, 32, 50, 48, 32, 51, 32, 51, 48, 32, 48, 10, 97, 103, 101, 110, 116, 32, 50, 53, 32, 49, 50, 32, 50, 53, 32, 48, 10, 107, 105, 110, 100, 32, 57, 57, 32, 51, 51, 52, 32, 51, 51, 51, 32, 51, 51, 51, 10, 114, 101, 112, 111, 114, 116, 32, 48, 32, 48, 32, 48, 32, 53, 10, 114, 101, 112, 111, 114, 116, 32, 49, 32, 48, 32, 52, 32, 55, 10]
def exPS : Str := [80, 1, 0, 100, 0, 1, 1, 244, 0, 5, 0, 0, 0, 3, 0, 2, 0, 10, 0, 10, 29, 39]
set_option maxRecDepth 10000 in
theorem exT_text : tourS exT = exTS := by
  simp (config := { decide := true }) only [tourS, exT, rowS, lineS, spS, List.map_cons, List.map_nil, itoa_dig]
  try rfl
theorem exC_text : cabS exC = exCS := by
  simp (config := { decide := true }) only [cabS, exC, loanS, lineS, List.map_cons, List.map_nil, itoa_dig, if_true, if_false]
theorem exR_text : royalS exR = exRS := by
  simp (config := { decide := true }) only [royalS, exR, agentS, kindS, reportS, lineS, List.map_cons, List.map_nil, List.zip_cons_cons, List.zip_nil_right, itoa_dig]
theorem exP_bytes : psS exP = exPS := by decide
theorem ndec {p : Prop} [Decidable p] (h : p) : (!decide p) = false := by simp [h]
set_option maxRecDepth 10000 in
theorem exT_len : exTS.length = 165 := rfl
set_option maxRecDepth 10000 in
theorem exC_len : exCS.length = 69 := rfl
set_option maxRecDepth 10000 in
theorem exR_len : exRS.length = 89 := rfl
theorem exT_read : readX tourStep zeroT tourX tourS exTS = .ok exT := readX_ok parse_tour exT_ok exT_text (by rw [exT_len]; decide)
theorem exC_read : readX cabStep zeroC cabX cabS exCS = .ok exC := readX_ok parse_cab exC_ok exC_text (by rw [exC_len]; decide)
theorem exR_read : readX royStep zeroR royalX royalS exRS = .ok exR := readX_ok parse_roy exR_ok exR_text (by rw [exR_len]; decide)
theorem exP_read : readPs exPS = .ok exP := by rw [← exP_bytes]; exact readPs_ok exP_ok
end Go.Bk
namespace Go.Proofs.YtleamcmljcdapaaGreatDoor
open Go Go.Eng Go.Bk Go.RowKit

theorem rsameBytes_calls (s u : SA UInt8) (W : World) (hS : s.ok byC 1 W) (hU : u.ok byC 1 W) : Calls Tryz.prog 29 #[s.v, u.v] W (Pure (.bool (decide (s.l = u.l))) W) := by
  refine calls_start Tryz.func29 rfl rfl ?_
  refine st ?_
  refine lv (Val.bytesStr rfl sls_58 und_5 und_9 (fun w hm => hS.mono0 (by decide) hm)) ?_
  refine lv (Val.bytesStr rfl sls_58 und_5 und_9 (fun w hm => hU.mono0 (by decide) hm)) ?_
  refine lv (Val.eqlStr rfl rfl) ?_
  refine RunC.ret ?_
  exact RunE.retP (.r1 rfl (.tmp rfl)) (by first | rfl | simp)
theorem great_calls (t : TrA) (c : CbA) (r : RyA) (p : PsA) (W : World) (hT : TrOk W t) (hR : RyOk W r) (hn1 : t.ways.l.length ≤ 9223372036854775807) (hn2 : r.shares.l.length ≤ 9223372036854775807) : Calls Tryz.prog 8 #[t.v, c.v, r.v, p.v] W (Pure (.bool (greatX t.pl c.pl r.pl p.pl)) W) := by
  have e1 : t.pl.ways.length = t.ways.l.length := by simp [TrA.pl]
  have e2 : r.pl.shares.length = r.shares.l.length := by simp [RyA.pl]
  have f0 : len0 t.pl c.pl p.pl = [(t.ways.l.length : Int), (t.stay.l.length : Int), (t.light.l.length : Int), (c.homes.l.length : Int), (c.loans.l.length : Int), (p.cards.l.length : Int)].foldl Max.max (t.fr.l.length : Int) := by unfold len0; rw [e1]; rfl
  have f1 : len1 t.pl c.pl r.pl p.pl = [(r.terms.l.length : Int), (r.paid.l.length : Int), (r.prices.l.length : Int), (r.shares.l.length : Int), (r.reports.l.length : Int)].foldl Max.max (len0 t.pl c.pl p.pl) := by unfold len1; rw [e2]; rfl
  refine calls_start Tryz.func8 rfl rfl ?_
  refine st ?_
  refine RunL.new (New.box rfl) rfl rfl rfl (fun b4 => ?_)
  refine RunL.new (New.box rfl) rfl rfl rfl (fun b5 => ?_)
  refine RunL.new (New.box rfl) rfl rfl rfl (fun b6 => ?_)
  refine RunL.new (New.box rfl) rfl rfl rfl (fun b7 => ?_)
  refine st ?_
  refine lv (Val.fieldAddr rfl fld_25_1) ?_
  refine lv (Val.load_one rfl (.tail _ (.tail _ (.tail _ (.head _)))) ty_22 rfl) ?_
  refine lv (Val.len_sl rfl sl_22) ?_
  refine lv (Val.fieldAddr rfl fld_25_2) ?_
  refine lv (Val.load_one rfl (.tail _ (.tail _ (.tail _ (.head _)))) ty_23 rfl) ?_
  refine lv (Val.len_sl rfl sl_23) ?_
  refine lv (Val.fieldAddr rfl fld_25_3) ?_
  refine lv (Val.load_one rfl (.tail _ (.tail _ (.tail _ (.head _)))) ty_22 rfl) ?_
  refine lv (Val.len_sl rfl sl_22) ?_
  refine lv (Val.fieldAddr rfl fld_25_4) ?_
  refine lv (Val.load_one rfl (.tail _ (.tail _ (.tail _ (.head _)))) ty_22 rfl) ?_
  refine lv (Val.len_sl rfl sl_22) ?_
  refine lv (Val.fieldAddr rfl fld_30_1) ?_
  refine lv (Val.load_one rfl (.tail _ (.tail _ (.head _))) ty_27 rfl) ?_
  refine lv (Val.len_sl rfl sl_27) ?_
  refine lv (Val.fieldAddr rfl fld_30_3) ?_
  refine lv (Val.load_one rfl (.tail _ (.tail _ (.head _))) ty_28 rfl) ?_
  refine lv (Val.len_sl rfl sl_28) ?_
  refine lv (Val.fieldAddr rfl fld_40_0) ?_
  refine lv (Val.load_one rfl (.head _) ty_36 rfl) ?_
  refine lv (Val.len_sl rfl sl_36) ?_
  refine RunL.val (Val.maxN (qs := [(t.ways.l.length : Int), (t.stay.l.length : Int), (t.light.l.length : Int), (c.homes.l.length : Int), (c.loans.l.length : Int), (p.cards.l.length : Int)]) rfl rfl) rfl rfl rfl ?_
  refine vp rfl rfl rfl rfl ?_
  refine nsr ?_
  rw [← f0]
  refine st ?_
  refine lv (Val.fieldAddr rfl fld_35_0) ?_
  refine lv (Val.load_one rfl (.tail _ (.head _)) ty_31 rfl) ?_
  refine lv (Val.len_sl rfl sl_31) ?_
  refine lv (Val.fieldAddr rfl fld_35_4) ?_
  refine lv (Val.load_one rfl (.tail _ (.head _)) ty_27 rfl) ?_
  refine lv (Val.len_sl rfl sl_27) ?_
  refine lv (Val.fieldAddr rfl fld_35_1) ?_
  refine lv (Val.load_one rfl (.tail _ (.head _)) ty_27 rfl) ?_
  refine lv (Val.len_sl rfl sl_27) ?_
  refine lv (Val.fieldAddr rfl fld_35_2) ?_
  refine lv (Val.load_one rfl (.tail _ (.head _)) ty_32 rfl) ?_
  refine lv (Val.len_sl rfl sl_32) ?_
  refine lv (Val.fieldAddr rfl fld_35_3) ?_
  refine lv (Val.load_one rfl (.tail _ (.head _)) ty_33 rfl) ?_
  refine lv (Val.len_sl rfl sl_33) ?_
  refine RunL.val (Val.maxN (qs := [(r.terms.l.length : Int), (r.paid.l.length : Int), (r.prices.l.length : Int), (r.shares.l.length : Int), (r.reports.l.length : Int)]) rfl rfl) rfl rfl rfl ?_
  refine vp rfl rfl rfl rfl ?_
  refine nnx ?_
  refine RunC.seq ?_
  refine csr ?_
  rw [← f1]
  refine lv (Val.fieldAddr rfl fld_25_2) ?_
  refine lv (Val.load_one rfl (.tail _ (.tail _ (.tail _ (.head _)))) ty_23 rfl) ?_
  refine lv (Val.len_sl rfl sl_23) ?_
  refine RunC.loopK (t.ways.l.length) (fun k q => (56, .int .i64 (k : Int)) :: (9, .int .i64 (len2 (len1 t.pl c.pl r.pl p.pl) (t.pl.ways.take k))) :: q) (fun _ => _) (fun _ => []) (fun _ => True) trivial rfl (Sub.consE (t := 56) rfl rfl (Sub.consE (t := 9) rfl (by rfl) (Sub.cons (t := 4) rfl (Sub.cons (t := 5) rfl (Sub.cons (t := 6) rfl (Sub.cons (t := 7) rfl (Sub.cons (t := 54) rfl (Sub.cons (t := 55) rfl (Sub.nil _))))))))) (.cons .here rfl (.cons .here rfl (.cons .here rfl (.cons .here rfl .nil)))) ?_
  intro k kN kI
  clear kI
  refine st ?_
  refine cn rfl ?_ ?_
  ·intro c0'
   have hk : k < t.ways.l.length := by omega
   obtain ⟨x, hx⟩ : ∃ x, t.ways.l[k] = x := ⟨_, rfl⟩
   refine st ?_
   refine lv (Val.indexAddr_slp rfl rfl sl_23 (by omega) (by omega) (Sl.ptrM hT.ways hk)) ?_
   refine lv (Val.load_gen rfl (fun w hm => Sl.loadM1 hT.ways (by decide) hm (by simp) ty_22 hk (v := x.v) (by simp [SA.cell, hx]))) ?_
   refine lv (Val.len_sl rfl sl_22) ?_
   refine lv (Val.max rfl rfl) ?_
   refine lv (Val.add rfl rfl (IntWalk.i64_in _ ⟨by omega, by omega⟩)) ?_
   exact RunE.round (by omega) trivial rfl (Sub.consE (t := 56) rfl rfl (Sub.consE (t := 9) rfl (by rw [len2_s (x := x.l) (by rw [e1]; exact hk) (by simp [TrA.pl, hx])]) (Sub.cons (t := 4) rfl (Sub.cons (t := 5) rfl (Sub.cons (t := 6) rfl (Sub.cons (t := 7) rfl (Sub.cons (t := 54) rfl (Sub.cons (t := 55) rfl (Sub.nil _))))))))) (.cons .here rfl (.cons .here rfl (.cons .here rfl (.cons .here rfl .nil))))
  intro c0'
  obtain rfl : k = t.ways.l.length := by omega
  have g1 : len2 (len1 t.pl c.pl r.pl p.pl) (t.pl.ways.take t.ways.l.length) = len2 (len1 t.pl c.pl r.pl p.pl) t.pl.ways := by rw [← e1, List.take_length]
  rw [g1]
  refine RunC.exit ?_
  refine RunE.pass_exit ?_
  refine RunE.pass_exit ?_
  refine RunE.block_here ?_
  refine st ?_
  refine lv (Val.fieldAddr rfl fld_35_2) ?_
  refine lv (Val.load_one rfl (.tail _ (.head _)) ty_32 rfl) ?_
  refine lv (Val.len_sl rfl sl_32) ?_
  refine RunC.loopK (r.shares.l.length) (fun k q => (68, .int .i64 (k : Int)) :: (9, .int .i64 (len2 (len2 (len1 t.pl c.pl r.pl p.pl) t.pl.ways) (r.pl.shares.take k))) :: q) (fun _ => _) (fun _ => []) (fun _ => True) trivial rfl (Sub.consE (t := 68) rfl rfl (Sub.consE (t := 9) rfl (by rfl) (Sub.cons (t := 4) rfl (Sub.cons (t := 5) rfl (Sub.cons (t := 6) rfl (Sub.cons (t := 7) rfl (Sub.cons (t := 66) rfl (Sub.cons (t := 67) rfl (Sub.nil _))))))))) (.cons .here rfl (.cons .here rfl (.cons .here rfl (.cons .here rfl .nil)))) ?_
  intro k kN kI
  clear kI
  refine st ?_
  refine cn rfl ?_ ?_
  ·intro c1'
   have hk : k < r.shares.l.length := by omega
   obtain ⟨x, hx⟩ : ∃ x, r.shares.l[k] = x := ⟨_, rfl⟩
   refine st ?_
   refine lv (Val.indexAddr_slp rfl rfl sl_32 (by omega) (by omega) (Sl.ptrM hR.shares hk)) ?_
   refine lv (Val.load_gen rfl (fun w hm => Sl.loadM1 hR.shares (by decide) hm (by simp) ty_27 hk (v := x.v) (by simp [SA.cell, hx]))) ?_
   refine lv (Val.len_sl rfl sl_27) ?_
   refine lv (Val.max rfl rfl) ?_
   refine lv (Val.add rfl rfl (IntWalk.i64_in _ ⟨by omega, by omega⟩)) ?_
   exact RunE.round (by omega) trivial rfl (Sub.consE (t := 68) rfl rfl (Sub.consE (t := 9) rfl (by rw [len2_s (x := x.l) (by rw [e2]; exact hk) (by simp [RyA.pl, hx])]) (Sub.cons (t := 4) rfl (Sub.cons (t := 5) rfl (Sub.cons (t := 6) rfl (Sub.cons (t := 7) rfl (Sub.cons (t := 66) rfl (Sub.cons (t := 67) rfl (Sub.nil _))))))))) (.cons .here rfl (.cons .here rfl (.cons .here rfl (.cons .here rfl .nil))))
  intro c1'
  obtain rfl : k = r.shares.l.length := by omega
  refine RunC.exit ?_
  refine RunE.pass_exit ?_
  refine RunE.pass_exit ?_
  refine RunE.block_here ?_
  refine st ?_
  refine RunC.ret ?_
  exact RunE.retP (.r1 rfl (.tmp rfl)) (by unfold greatX lenX; rw [show List.take r.shares.l.length r.pl.shares = r.pl.shares by rw [← e2, List.take_length]])
theorem lspan_calls (a b : Int) (W : World) : Calls Tryz.prog 85 #[.int .i64 a, .int .i64 b] W (Pure (.agg #[.int .i64 a, .int .i64 b]) W) := by
  refine calls_start Tryz.func85 rfl rfl ?_
  refine st ?_
  refine RunL.new (New.alloc zero_38) rfl rfl rfl (fun b4 => ?_)
  refine st ?_
  refine lv (Val.build (parts := [(0, .tmp 5), (1, .tmp 6)]) rfl zero_38 places_38 rfl) ?_
  refine RunL.sto (Sto.store rfl rfl .here ty_38 rfl rfl) rfl rfl ?_
  refine st ?_
  refine RunC.ret ?_
  exact RunE.retP (.r1 rfl (.agg rfl (.head _) ty_38 rfl)) (by first | rfl | simp)
end Go.Proofs.YtleamcmljcdapaaGreatDoor
namespace Go.Proofs.YtleamcmljcdapaaGreatDoor
open Go Go.Eng
theorem ent_85 : Enters Tryz.prog 85 := enters_of Tryz.func85 (by kernel_rfl) rfl
theorem places_25 : placesB Tryz.prog 25 = some [(0, 1), (1, 1), (2, 1), (3, 1), (4, 1)] := by kernel_rfl
theorem places_30 : placesB Tryz.prog 30 = some [(0, 1), (1, 1), (2, 1), (3, 1)] := by kernel_rfl
theorem places_35 : placesB Tryz.prog 35 = some [(0, 1), (1, 1), (2, 1), (3, 1), (4, 1)] := by kernel_rfl
end Go.Proofs.YtleamcmljcdapaaGreatDoor
namespace Go.Proofs.YtleamcmljcdapaaGreatDoor
open Go Go.Eng Go.Bk Go.RowKit

abbrev cO (cs : List Value) (T : TypeId) : Obj := .cells cs.toArray T (0, 0)
theorem cO_ok {α : Type} {w : World} {b c : Nat} {T : TypeId} {f : α → List Value} {sz : Nat} (l : List α) (h : w.heap[b]? = some (cO (l.map f).flatten T)) (hf : ∀ x, (f x).length = sz) : (⟨l, some ⟨b, 0, none⟩, b, 0, c⟩ : SA α).ok f sz w :=
  Sl.rowsR (xs := l.map f) (t := []) (by rw [List.append_nil]; exact h) (fun x hx => by obtain ⟨y, _, rfl⟩ := List.mem_map.1 hx; exact hf y)
/-- A slice that is just a block. -/
abbrev atB {α : Type} (l : List α) (b : Nat) : SA α := ⟨l, some ⟨b, 0, none⟩, b, 0, l.length⟩
structure ExT where
  a : Nat
  b : Nat
  c : Nat
  d : Nat
  e : Nat
  f : Nat
  g : Nat
def exTR (z : ExT) : List (SA Sp) := [atB [⟨0, 0⟩, ⟨15, 20⟩, ⟨45, 50⟩] z.b, atB [⟨15, 20⟩, ⟨0, 0⟩, ⟨30, 35⟩] z.c, atB [⟨45, 50⟩, ⟨30, 35⟩, ⟨0, 0⟩] z.d]
def exTA (z : ExT) : TrA := ⟨360, atB exT.fr z.a, atB (exTR z) z.e, atB exT.stay z.f, atB exT.light z.g⟩
theorem exTA_pl (z : ExT) : (exTA z).pl = exT := rfl
def exTB (z : ExT) : Blks := [(z.a, cO (exT.fr.map Sp.cells).flatten 38), (z.b, cO (([⟨0, 0⟩, ⟨15, 20⟩, ⟨45, 50⟩] : List Sp).map Sp.cells).flatten 38), (z.c, cO (([⟨15, 20⟩, ⟨0, 0⟩, ⟨30, 35⟩] : List Sp).map Sp.cells).flatten 38), (z.d, cO (([⟨45, 50⟩, ⟨30, 35⟩, ⟨0, 0⟩] : List Sp).map Sp.cells).flatten 38), (z.e, cO ((exTR z).map SA.cell).flatten 22), (z.f, cO (exT.stay.map Sp.cells).flatten 38), (z.g, cO (exT.light.map Sp.cells).flatten 38)]
theorem exTA_ok {z : ExT} {w W : World} {tl : Blks} (hm : Mem W [] (exTB z ++ tl) w) : TrOk w (exTA z) := by
  have h : ∀ b o, (b, o) ∈ exTB z → w.heap[b]? = some o := fun b o hb => hm.at (List.mem_append_right _ (List.mem_append_left _ hb))
  refine ⟨cO_ok _ (h _ _ (.head _)) (fun _ => rfl), cO_ok _ (h _ _ (.tail _ (.tail _ (.tail _ (.tail _ (.head _)))))) (fun _ => rfl), fun x hx => ?_, cO_ok _ (h _ _ (.tail _ (.tail _ (.tail _ (.tail _ (.tail _ (.head _))))))) (fun _ => rfl), cO_ok _ (h _ _ (.tail _ (.tail _ (.tail _ (.tail _ (.tail _ (.tail _ (.head _)))))))) (fun _ => rfl), fun e => by cases e⟩
  simp only [exTA, exTR, List.mem_cons, List.not_mem_nil, or_false] at hx
  rcases hx with rfl | rfl | rfl
  · exact cO_ok _ (h _ _ (.tail _ (.head _))) (fun _ => rfl)
  · exact cO_ok _ (h _ _ (.tail _ (.tail _ (.head _)))) (fun _ => rfl)
  · exact cO_ok _ (h _ _ (.tail _ (.tail _ (.tail _ (.head _))))) (fun _ => rfl)
theorem exTA_sm (z : ExT) : TrSm (exTA z) := ⟨by show (3 : Nat) ≤ _; decide, by show (3 : Nat) ≤ _; decide, fun x hx => by
  simp only [exTA, exTR, List.mem_cons, List.not_mem_nil, or_false] at hx
  rcases hx with rfl | rfl | rfl <;> (show (3 : Nat) ≤ _; decide), by show (3 : Nat) ≤ _; decide, by show (3 : Nat) ≤ _; decide⟩
theorem tour_calls (W : World) : Calls Tryz.prog 37 #[] W (News (fun z : ExT => (exTA z).v) exTB W) := by
  refine calls_start Tryz.func37 rfl rfl ?_
  refine st ?_
  refine RunL.new (New.alloc zero_25) rfl rfl rfl (fun b0 => ?_)
  refine st ?_
  iterate 4 refine RunL.callP (isCall_func rfl ent_85) rfl rfl rfl (fun w hm => lspan_calls _ _ w) ?_
  refine RunL.new (New.alloc zero_38) rfl rfl rfl (fun b1 => ?_)
  refine RunL.new (New.alloc zero_38) rfl rfl rfl (fun b2 => ?_)
  refine RunL.new (New.alloc zero_38) rfl rfl rfl (fun b3 => ?_)
  refine RunL.new (New.alloc zero_38) rfl rfl rfl (fun b4 => ?_)
  refine RunL.sto (Sto.store rfl rfl (.there (.there (.there .here))) ty_38 rfl rfl) rfl rfl ?_
  refine RunL.sto (Sto.store rfl rfl (.there (.there .here)) ty_38 rfl rfl) rfl rfl ?_
  refine RunL.sto (Sto.store rfl rfl (.there .here) ty_38 rfl rfl) rfl rfl ?_
  refine RunL.sto (Sto.store rfl rfl .here ty_38 rfl rfl) rfl rfl ?_
  refine st ?_
  refine RunC.freeN (O := Nat) [⟨9, [], [], fun _ => .agg #[.int .i64 30, .int .i64 40], fun _ => []⟩, ⟨10, [0], [], fun _ => .agg #[.int .i64 20, .int .i64 20], fun _ => []⟩, ⟨11, [0, 1], [], fun _ => .agg #[.int .i64 60, .int .i64 70], fun _ => []⟩, ⟨12, [0, 1, 2], [3], fun l => match l with | [b12] => .slice (some ⟨b12, 0, none⟩) 3 3 | _ => undef, fun l => match l with | [b12] => [(b12, .cells [.int .i64 30, .int .i64 40, .int .i64 20, .int .i64 20, .int .i64 60, .int .i64 70].toArray 38 (0, 0))] | _ => []⟩, ⟨13, [], [], fun _ => .agg #[.int .i64 0, .int .i64 0], fun _ => []⟩, ⟨14, [], [], fun _ => .agg #[.int .i64 15, .int .i64 20], fun _ => []⟩, ⟨15, [], [], fun _ => .agg #[.int .i64 45, .int .i64 50], fun _ => []⟩, ⟨16, [4, 5, 6], [7], fun l => match l with | [b16] => .slice (some ⟨b16, 0, none⟩) 3 3 | _ => undef, fun l => match l with | [b16] => [(b16, .cells [.int .i64 0, .int .i64 0, .int .i64 15, .int .i64 20, .int .i64 45, .int .i64 50].toArray 38 (0, 0))] | _ => []⟩, ⟨17, [], [], fun _ => .agg #[.int .i64 15, .int .i64 20], fun _ => []⟩, ⟨18, [], [], fun _ => .agg #[.int .i64 0, .int .i64 0], fun _ => []⟩, ⟨19, [], [], fun _ => .agg #[.int .i64 30, .int .i64 35], fun _ => []⟩, ⟨20, [8, 9, 10], [11], fun l => match l with | [b20] => .slice (some ⟨b20, 0, none⟩) 3 3 | _ => undef, fun l => match l with | [b20] => [(b20, .cells [.int .i64 15, .int .i64 20, .int .i64 0, .int .i64 0, .int .i64 30, .int .i64 35].toArray 38 (0, 0))] | _ => []⟩, ⟨21, [], [], fun _ => .agg #[.int .i64 45, .int .i64 50], fun _ => []⟩, ⟨22, [], [], fun _ => .agg #[.int .i64 30, .int .i64 35], fun _ => []⟩, ⟨23, [], [], fun _ => .agg #[.int .i64 0, .int .i64 0], fun _ => []⟩, ⟨24, [12, 13, 14], [15], fun l => match l with | [b24] => .slice (some ⟨b24, 0, none⟩) 3 3 | _ => undef, fun l => match l with | [b24] => [(b24, .cells [.int .i64 45, .int .i64 50, .int .i64 30, .int .i64 35, .int .i64 0, .int .i64 0].toArray 38 (0, 0))] | _ => []⟩, ⟨25, [4, 5, 6, 7, 8, 9, 10, 11, 12, 13, 14, 15], [7, 11, 15, 16], fun l => match l with | [b16, b20, b24, b25] => .slice (some ⟨b25, 0, none⟩) 3 3 | _ => undef, fun l => match l with | [b16, b20, b24, b25] => [(b25, .cells [.slice (some ⟨b16, 0, none⟩) 3 3, .slice (some ⟨b20, 0, none⟩) 3 3, .slice (some ⟨b24, 0, none⟩) 3 3].toArray 22 (0, 0))] | _ => []⟩, ⟨26, [0, 1, 2], [], fun _ => .agg #[.int .i64 10, .int .i64 15], fun _ => []⟩, ⟨27, [0, 1, 2, 17], [], fun _ => .agg #[.int .i64 20, .int .i64 20], fun _ => []⟩, ⟨28, [0, 1, 2, 17, 18], [], fun _ => .agg #[.int .i64 5, .int .i64 10], fun _ => []⟩, ⟨29, [0, 1, 2, 17, 18, 19], [20], fun l => match l with | [b29] => .slice (some ⟨b29, 0, none⟩) 3 3 | _ => undef, fun l => match l with | [b29] => [(b29, .cells [.int .i64 10, .int .i64 15, .int .i64 20, .int .i64 20, .int .i64 5, .int .i64 10].toArray 38 (0, 0))] | _ => []⟩, ⟨30, [0, 1, 2, 17, 18, 19], [], fun _ => .agg #[.int .i64 420, .int .i64 480], fun _ => []⟩, ⟨31, [0, 1, 2, 17, 18, 19, 21], [], fun _ => .agg #[.int .i64 380, .int .i64 600], fun _ => []⟩, ⟨32, [0, 1, 2, 17, 18, 19, 21, 22], [], fun _ => .agg #[.int .i64 500, .int .i64 540], fun _ => []⟩, ⟨33, [0, 1, 2, 17, 18, 19, 21, 22, 23], [24], fun l => match l with | [b33] => .slice (some ⟨b33, 0, none⟩) 3 3 | _ => undef, fun l => match l with | [b33] => [(b33, .cells [.int .i64 420, .int .i64 480, .int .i64 380, .int .i64 600, .int .i64 500, .int .i64 540].toArray 38 (0, 0))] | _ => []⟩] 27 25 2 fol_ (by kernel_rfl) (by rfl) rfl rfl rfl ?_ ?_
  ·refine AllOk.cons (fun x => ?_) ?_
   ·show OpOk _ _ _ _ _ (_) (_) 0 9 (fun _ => .agg #[.int .i64 30, .int .i64 40]) (fun _ => [])
    exact OpOk.callP rfl (isCall_func rfl ent_85) rfl rfl (fun w hm => lspan_calls _ _ w)
   refine AllOk.cons (fun x => ?_) ?_
   ·show OpOk _ _ _ _ _ ((9, .agg #[.int .i64 30, .int .i64 40]) :: _) (_) 1 10 (fun _ => .agg #[.int .i64 20, .int .i64 20]) (fun _ => [])
    exact OpOk.callP rfl (isCall_func rfl ent_85) rfl rfl (fun w hm => lspan_calls _ _ w)
   refine AllOk.cons (fun x => ?_) ?_
   ·show OpOk _ _ _ _ _ ((9, .agg #[.int .i64 30, .int .i64 40]) :: (10, .agg #[.int .i64 20, .int .i64 20]) :: _) (_) 2 11 (fun _ => .agg #[.int .i64 60, .int .i64 70]) (fun _ => [])
    exact OpOk.callP rfl (isCall_func rfl ent_85) rfl rfl (fun w hm => lspan_calls _ _ w)
   refine AllOk.cons (fun x => ?_) ?_
   ·show OpOk _ _ _ _ _ ((9, .agg #[.int .i64 30, .int .i64 40]) :: (10, .agg #[.int .i64 20, .int .i64 20]) :: (11, .agg #[.int .i64 60, .int .i64 70]) :: _) (_) 3 12 (fun b12 => .slice (some ⟨b12, 0, none⟩) 3 3) (fun b12 => [(b12, .cells [.int .i64 30, .int .i64 40, .int .i64 20, .int .i64 20, .int .i64 60, .int .i64 70].toArray 38 (0, 0))])
    exact OpOk.new rfl (New.buildSlice (parts := [(0, .tmp 9), (1, .tmp 10), (2, .tmp 11)]) rfl sl_22 zero_38 rfl rfl rfl rfl) rfl rfl
   refine AllOk.cons (fun x => ?_) ?_
   ·show OpOk _ _ _ _ _ (_) (_) 4 13 (fun _ => .agg #[.int .i64 0, .int .i64 0]) (fun _ => [])
    exact OpOk.val rfl (Val.load_agg rfl (.head _) ty_38 rfl) rfl rfl
   refine AllOk.cons (fun x => ?_) ?_
   ·show OpOk _ _ _ _ _ (_) (_) 5 14 (fun _ => .agg #[.int .i64 15, .int .i64 20]) (fun _ => [])
    exact OpOk.val rfl (Val.load_agg rfl (.tail _ (.tail _ (.tail _ (.head _)))) ty_38 rfl) rfl rfl
   refine AllOk.cons (fun x => ?_) ?_
   ·show OpOk _ _ _ _ _ (_) (_) 6 15 (fun _ => .agg #[.int .i64 45, .int .i64 50]) (fun _ => [])
    exact OpOk.val rfl (Val.load_agg rfl (.tail _ (.tail _ (.head _))) ty_38 rfl) rfl rfl
   refine AllOk.cons (fun x => ?_) ?_
   ·show OpOk _ _ _ _ _ ((13, .agg #[.int .i64 0, .int .i64 0]) :: (14, .agg #[.int .i64 15, .int .i64 20]) :: (15, .agg #[.int .i64 45, .int .i64 50]) :: _) (_) 7 16 (fun b16 => .slice (some ⟨b16, 0, none⟩) 3 3) (fun b16 => [(b16, .cells [.int .i64 0, .int .i64 0, .int .i64 15, .int .i64 20, .int .i64 45, .int .i64 50].toArray 38 (0, 0))])
    exact OpOk.new rfl (New.buildSlice (parts := [(0, .tmp 13), (1, .tmp 14), (2, .tmp 15)]) rfl sl_22 zero_38 rfl rfl rfl rfl) rfl rfl
   refine AllOk.cons (fun x => ?_) ?_
   ·show OpOk _ _ _ _ _ (_) (_) 8 17 (fun _ => .agg #[.int .i64 15, .int .i64 20]) (fun _ => [])
    exact OpOk.val rfl (Val.load_agg rfl (.tail _ (.tail _ (.tail _ (.head _)))) ty_38 rfl) rfl rfl
   refine AllOk.cons (fun x => ?_) ?_
   ·show OpOk _ _ _ _ _ (_) (_) 9 18 (fun _ => .agg #[.int .i64 0, .int .i64 0]) (fun _ => [])
    exact OpOk.val rfl (Val.load_agg rfl (.head _) ty_38 rfl) rfl rfl
   refine AllOk.cons (fun x => ?_) ?_
   ·show OpOk _ _ _ _ _ (_) (_) 10 19 (fun _ => .agg #[.int .i64 30, .int .i64 35]) (fun _ => [])
    exact OpOk.val rfl (Val.load_agg rfl (.tail _ (.head _)) ty_38 rfl) rfl rfl
   refine AllOk.cons (fun x => ?_) ?_
   ·show OpOk _ _ _ _ _ ((17, .agg #[.int .i64 15, .int .i64 20]) :: (18, .agg #[.int .i64 0, .int .i64 0]) :: (19, .agg #[.int .i64 30, .int .i64 35]) :: _) (_) 11 20 (fun b20 => .slice (some ⟨b20, 0, none⟩) 3 3) (fun b20 => [(b20, .cells [.int .i64 15, .int .i64 20, .int .i64 0, .int .i64 0, .int .i64 30, .int .i64 35].toArray 38 (0, 0))])
    exact OpOk.new rfl (New.buildSlice (parts := [(0, .tmp 17), (1, .tmp 18), (2, .tmp 19)]) rfl sl_22 zero_38 rfl rfl rfl rfl) rfl rfl
   refine AllOk.cons (fun x => ?_) ?_
   ·show OpOk _ _ _ _ _ (_) (_) 12 21 (fun _ => .agg #[.int .i64 45, .int .i64 50]) (fun _ => [])
    exact OpOk.val rfl (Val.load_agg rfl (.tail _ (.tail _ (.head _))) ty_38 rfl) rfl rfl
   refine AllOk.cons (fun x => ?_) ?_
   ·show OpOk _ _ _ _ _ (_) (_) 13 22 (fun _ => .agg #[.int .i64 30, .int .i64 35]) (fun _ => [])
    exact OpOk.val rfl (Val.load_agg rfl (.tail _ (.head _)) ty_38 rfl) rfl rfl
   refine AllOk.cons (fun x => ?_) ?_
   ·show OpOk _ _ _ _ _ (_) (_) 14 23 (fun _ => .agg #[.int .i64 0, .int .i64 0]) (fun _ => [])
    exact OpOk.val rfl (Val.load_agg rfl (.head _) ty_38 rfl) rfl rfl
   refine AllOk.cons (fun x => ?_) ?_
   ·show OpOk _ _ _ _ _ ((21, .agg #[.int .i64 45, .int .i64 50]) :: (22, .agg #[.int .i64 30, .int .i64 35]) :: (23, .agg #[.int .i64 0, .int .i64 0]) :: _) (_) 15 24 (fun b24 => .slice (some ⟨b24, 0, none⟩) 3 3) (fun b24 => [(b24, .cells [.int .i64 45, .int .i64 50, .int .i64 30, .int .i64 35, .int .i64 0, .int .i64 0].toArray 38 (0, 0))])
    exact OpOk.new rfl (New.buildSlice (parts := [(0, .tmp 21), (1, .tmp 22), (2, .tmp 23)]) rfl sl_22 zero_38 rfl rfl rfl rfl) rfl rfl
   refine AllOk.cons (fun x => ?_) ?_
   ·show OpOk _ _ _ _ _ ((13, .agg #[.int .i64 0, .int .i64 0]) :: (14, .agg #[.int .i64 15, .int .i64 20]) :: (15, .agg #[.int .i64 45, .int .i64 50]) :: (16, .slice (some ⟨(x 7), 0, none⟩) 3 3) :: (17, .agg #[.int .i64 15, .int .i64 20]) :: (18, .agg #[.int .i64 0, .int .i64 0]) :: (19, .agg #[.int .i64 30, .int .i64 35]) :: (20, .slice (some ⟨(x 11), 0, none⟩) 3 3) :: (21, .agg #[.int .i64 45, .int .i64 50]) :: (22, .agg #[.int .i64 30, .int .i64 35]) :: (23, .agg #[.int .i64 0, .int .i64 0]) :: (24, .slice (some ⟨(x 15), 0, none⟩) 3 3) :: _) (((x 7), .cells [.int .i64 0, .int .i64 0, .int .i64 15, .int .i64 20, .int .i64 45, .int .i64 50].toArray 38 (0, 0)) :: ((x 11), .cells [.int .i64 15, .int .i64 20, .int .i64 0, .int .i64 0, .int .i64 30, .int .i64 35].toArray 38 (0, 0)) :: ((x 15), .cells [.int .i64 45, .int .i64 50, .int .i64 30, .int .i64 35, .int .i64 0, .int .i64 0].toArray 38 (0, 0)) :: _) 16 25 (fun b25 => .slice (some ⟨b25, 0, none⟩) 3 3) (fun b25 => [(b25, .cells [.slice (some ⟨(x 7), 0, none⟩) 3 3, .slice (some ⟨(x 11), 0, none⟩) 3 3, .slice (some ⟨(x 15), 0, none⟩) 3 3].toArray 22 (0, 0))])
    generalize x 7 = b16
    generalize x 11 = b20
    generalize x 15 = b24
    exact OpOk.new rfl (New.buildSlice (parts := [(0, .tmp 16), (1, .tmp 20), (2, .tmp 24)]) rfl sl_23 zero_22 rfl rfl rfl rfl) rfl rfl
   refine AllOk.cons (fun x => ?_) ?_
   ·show OpOk _ _ _ _ _ ((9, .agg #[.int .i64 30, .int .i64 40]) :: (10, .agg #[.int .i64 20, .int .i64 20]) :: (11, .agg #[.int .i64 60, .int .i64 70]) :: _) (_) 17 26 (fun _ => .agg #[.int .i64 10, .int .i64 15]) (fun _ => [])
    exact OpOk.callP rfl (isCall_func rfl ent_85) rfl rfl (fun w hm => lspan_calls _ _ w)
   refine AllOk.cons (fun x => ?_) ?_
   ·show OpOk _ _ _ _ _ ((9, .agg #[.int .i64 30, .int .i64 40]) :: (10, .agg #[.int .i64 20, .int .i64 20]) :: (11, .agg #[.int .i64 60, .int .i64 70]) :: (26, .agg #[.int .i64 10, .int .i64 15]) :: _) (_) 18 27 (fun _ => .agg #[.int .i64 20, .int .i64 20]) (fun _ => [])
    exact OpOk.callP rfl (isCall_func rfl ent_85) rfl rfl (fun w hm => lspan_calls _ _ w)
   refine AllOk.cons (fun x => ?_) ?_
   ·show OpOk _ _ _ _ _ ((9, .agg #[.int .i64 30, .int .i64 40]) :: (10, .agg #[.int .i64 20, .int .i64 20]) :: (11, .agg #[.int .i64 60, .int .i64 70]) :: (26, .agg #[.int .i64 10, .int .i64 15]) :: (27, .agg #[.int .i64 20, .int .i64 20]) :: _) (_) 19 28 (fun _ => .agg #[.int .i64 5, .int .i64 10]) (fun _ => [])
    exact OpOk.callP rfl (isCall_func rfl ent_85) rfl rfl (fun w hm => lspan_calls _ _ w)
   refine AllOk.cons (fun x => ?_) ?_
   ·show OpOk _ _ _ _ _ ((9, .agg #[.int .i64 30, .int .i64 40]) :: (10, .agg #[.int .i64 20, .int .i64 20]) :: (11, .agg #[.int .i64 60, .int .i64 70]) :: (26, .agg #[.int .i64 10, .int .i64 15]) :: (27, .agg #[.int .i64 20, .int .i64 20]) :: (28, .agg #[.int .i64 5, .int .i64 10]) :: _) (_) 20 29 (fun b29 => .slice (some ⟨b29, 0, none⟩) 3 3) (fun b29 => [(b29, .cells [.int .i64 10, .int .i64 15, .int .i64 20, .int .i64 20, .int .i64 5, .int .i64 10].toArray 38 (0, 0))])
    exact OpOk.new rfl (New.buildSlice (parts := [(0, .tmp 26), (1, .tmp 27), (2, .tmp 28)]) rfl sl_22 zero_38 rfl rfl rfl rfl) rfl rfl
   refine AllOk.cons (fun x => ?_) ?_
   ·show OpOk _ _ _ _ _ ((9, .agg #[.int .i64 30, .int .i64 40]) :: (10, .agg #[.int .i64 20, .int .i64 20]) :: (11, .agg #[.int .i64 60, .int .i64 70]) :: (26, .agg #[.int .i64 10, .int .i64 15]) :: (27, .agg #[.int .i64 20, .int .i64 20]) :: (28, .agg #[.int .i64 5, .int .i64 10]) :: _) (_) 21 30 (fun _ => .agg #[.int .i64 420, .int .i64 480]) (fun _ => [])
    exact OpOk.callP rfl (isCall_func rfl ent_85) rfl rfl (fun w hm => lspan_calls _ _ w)
   refine AllOk.cons (fun x => ?_) ?_
   ·show OpOk _ _ _ _ _ ((9, .agg #[.int .i64 30, .int .i64 40]) :: (10, .agg #[.int .i64 20, .int .i64 20]) :: (11, .agg #[.int .i64 60, .int .i64 70]) :: (26, .agg #[.int .i64 10, .int .i64 15]) :: (27, .agg #[.int .i64 20, .int .i64 20]) :: (28, .agg #[.int .i64 5, .int .i64 10]) :: (30, .agg #[.int .i64 420, .int .i64 480]) :: _) (_) 22 31 (fun _ => .agg #[.int .i64 380, .int .i64 600]) (fun _ => [])
    exact OpOk.callP rfl (isCall_func rfl ent_85) rfl rfl (fun w hm => lspan_calls _ _ w)
   refine AllOk.cons (fun x => ?_) ?_
   ·show OpOk _ _ _ _ _ ((9, .agg #[.int .i64 30, .int .i64 40]) :: (10, .agg #[.int .i64 20, .int .i64 20]) :: (11, .agg #[.int .i64 60, .int .i64 70]) :: (26, .agg #[.int .i64 10, .int .i64 15]) :: (27, .agg #[.int .i64 20, .int .i64 20]) :: (28, .agg #[.int .i64 5, .int .i64 10]) :: (30, .agg #[.int .i64 420, .int .i64 480]) :: (31, .agg #[.int .i64 380, .int .i64 600]) :: _) (_) 23 32 (fun _ => .agg #[.int .i64 500, .int .i64 540]) (fun _ => [])
    exact OpOk.callP rfl (isCall_func rfl ent_85) rfl rfl (fun w hm => lspan_calls _ _ w)
   refine AllOk.cons (fun x => ?_) ?_
   ·show OpOk _ _ _ _ _ ((9, .agg #[.int .i64 30, .int .i64 40]) :: (10, .agg #[.int .i64 20, .int .i64 20]) :: (11, .agg #[.int .i64 60, .int .i64 70]) :: (26, .agg #[.int .i64 10, .int .i64 15]) :: (27, .agg #[.int .i64 20, .int .i64 20]) :: (28, .agg #[.int .i64 5, .int .i64 10]) :: (30, .agg #[.int .i64 420, .int .i64 480]) :: (31, .agg #[.int .i64 380, .int .i64 600]) :: (32, .agg #[.int .i64 500, .int .i64 540]) :: _) (_) 24 33 (fun b33 => .slice (some ⟨b33, 0, none⟩) 3 3) (fun b33 => [(b33, .cells [.int .i64 420, .int .i64 480, .int .i64 380, .int .i64 600, .int .i64 500, .int .i64 540].toArray 38 (0, 0))])
    exact OpOk.new rfl (New.buildSlice (parts := [(0, .tmp 30), (1, .tmp 31), (2, .tmp 32)]) rfl sl_22 zero_38 rfl rfl rfl rfl) rfl rfl
   exact AllOk.nil
  intro x
  show RunB _ _ _ _ 2 (listedK 25 27) ((9, .agg #[.int .i64 30, .int .i64 40]) :: (10, .agg #[.int .i64 20, .int .i64 20]) :: (11, .agg #[.int .i64 60, .int .i64 70]) :: (12, .slice (some ⟨(x 3), 0, none⟩) 3 3) :: (13, .agg #[.int .i64 0, .int .i64 0]) :: (14, .agg #[.int .i64 15, .int .i64 20]) :: (15, .agg #[.int .i64 45, .int .i64 50]) :: (16, .slice (some ⟨(x 7), 0, none⟩) 3 3) :: (17, .agg #[.int .i64 15, .int .i64 20]) :: (18, .agg #[.int .i64 0, .int .i64 0]) :: (19, .agg #[.int .i64 30, .int .i64 35]) :: (20, .slice (some ⟨(x 11), 0, none⟩) 3 3) :: (21, .agg #[.int .i64 45, .int .i64 50]) :: (22, .agg #[.int .i64 30, .int .i64 35]) :: (23, .agg #[.int .i64 0, .int .i64 0]) :: (24, .slice (some ⟨(x 15), 0, none⟩) 3 3) :: (25, .slice (some ⟨(x 16), 0, none⟩) 3 3) :: (26, .agg #[.int .i64 10, .int .i64 15]) :: (27, .agg #[.int .i64 20, .int .i64 20]) :: (28, .agg #[.int .i64 5, .int .i64 10]) :: (29, .slice (some ⟨(x 20), 0, none⟩) 3 3) :: (30, .agg #[.int .i64 420, .int .i64 480]) :: (31, .agg #[.int .i64 380, .int .i64 600]) :: (32, .agg #[.int .i64 500, .int .i64 540]) :: (33, .slice (some ⟨(x 24), 0, none⟩) 3 3) :: _) _ _ _ (((x 3), .cells [.int .i64 30, .int .i64 40, .int .i64 20, .int .i64 20, .int .i64 60, .int .i64 70].toArray 38 (0, 0)) :: ((x 7), .cells [.int .i64 0, .int .i64 0, .int .i64 15, .int .i64 20, .int .i64 45, .int .i64 50].toArray 38 (0, 0)) :: ((x 11), .cells [.int .i64 15, .int .i64 20, .int .i64 0, .int .i64 0, .int .i64 30, .int .i64 35].toArray 38 (0, 0)) :: ((x 15), .cells [.int .i64 45, .int .i64 50, .int .i64 30, .int .i64 35, .int .i64 0, .int .i64 0].toArray 38 (0, 0)) :: ((x 16), .cells [.slice (some ⟨(x 7), 0, none⟩) 3 3, .slice (some ⟨(x 11), 0, none⟩) 3 3, .slice (some ⟨(x 15), 0, none⟩) 3 3].toArray 22 (0, 0)) :: ((x 20), .cells [.int .i64 10, .int .i64 15, .int .i64 20, .int .i64 20, .int .i64 5, .int .i64 10].toArray 38 (0, 0)) :: ((x 24), .cells [.int .i64 420, .int .i64 480, .int .i64 380, .int .i64 600, .int .i64 500, .int .i64 540].toArray 38 (0, 0)) :: (b4, _) :: (b3, _) :: (b2, _) :: (b1, _) :: (b0, _) :: _)
  generalize x 3 = b12
  generalize x 7 = b16
  generalize x 11 = b20
  generalize x 15 = b24
  generalize x 16 = b25
  generalize x 20 = b29
  generalize x 24 = b33
  refine RunB.one (i := 25) (by kernel_rfl) ?_
  refine RunI.val rfl (Val.build (parts := [(0, .const (.int .i64 360)), (1, .tmp 12), (2, .tmp 25), (3, .tmp 29), (4, .tmp 33)]) rfl zero_25 places_25 rfl) rfl rfl rfl (RunK.toB ?_)
  refine RunB.one (i := 26) (by kernel_rfl) ?_
  refine RunI.sto rfl (Sto.store rfl rfl (.there (.there (.there (.there (.there (.there (.there (.there (.there (.there (.there .here))))))))))) ty_25 rfl rfl) rfl rfl (RunK.toB ?_)
  refine RunB.done (by kernel_rfl) ?_
  refine st ?_
  refine RunC.ret ?_
  exact RunE.ret (chg := []) (.r1 rfl (.agg rfl (.tail _ (.tail _ (.tail _ (.tail _ (.tail _ (.tail _ (.tail _ (.tail _ (.tail _ (.tail _ (.tail _ (.head _)))))))))))) ty_25 rfl)) (fun _ hm => ⟨⟨b12, b16, b20, b24, b25, b29, b33⟩, rfl, hm.pick (.cons .here rfl (.cons .here rfl (.cons .here rfl (.cons .here rfl (.cons .here rfl (.cons .here rfl (.cons .here rfl .nil)))))))⟩)
structure ExC where
  a : Nat
  b : Nat
def exCA (z : ExC) : CbA := ⟨4, atB exC.homes z.a, 1, atB exC.loans z.b⟩
def exCB (z : ExC) : Blks := [(z.a, cO (exC.homes.map intC).flatten 3), (z.b, cO (exC.loans.map Ln.cells).flatten 98)]
theorem exCA_pl (z : ExC) : (exCA z).pl = exC := rfl
theorem exCA_ok {z : ExC} {w W : World} {tl : Blks} (hm : Mem W [] (exCB z ++ tl) w) : CbOk w (exCA z) := by
  have h : ∀ b o, (b, o) ∈ exCB z → w.heap[b]? = some o := fun b o hb => hm.at (List.mem_append_right _ (List.mem_append_left _ hb))
  exact ⟨cO_ok _ (h _ _ (.head _)) (fun _ => rfl), cO_ok _ (h _ _ (.tail _ (.head _))) (fun _ => rfl)⟩
theorem exCA_s (z : ExC) : CbS (exCA z) := ⟨by show (3 : Nat) ≤ _; decide, by show (5 : Nat) ≤ _; decide⟩
theorem cabinet_calls (W : World) : Calls Tryz.prog 38 #[] W (News (fun z : ExC => (exCA z).v) exCB W) := by
  refine calls_start Tryz.func38 rfl rfl ?_
  refine st ?_
  refine RunL.new (New.alloc zero_30) rfl rfl rfl (fun b0 => ?_)
  refine st ?_
  refine RunL.new (New.buildSlice (parts := [(0, .const (.int .i64 0)), (1, .const (.int .i64 1)), (2, .const (.int .i64 2))]) rfl sl_27 zero_3 rfl rfl rfl rfl) rfl rfl rfl (fun b1 => ?_)
  refine lv (Val.build (parts := [(1, .const (.int .i64 0)), (2, .const (.int .i64 0))]) rfl zero_98 places_98 rfl) ?_
  refine lv (Val.build (parts := [(1, .const (.int .i64 1)), (2, .const (.int .i64 1))]) rfl zero_98 places_98 rfl) ?_
  refine lv (Val.build (parts := [(0, .const (.int .i64 1)), (1, .const (.int .i64 0)), (2, .const (.int .i64 0))]) rfl zero_98 places_98 rfl) ?_
  refine lv (Val.build (parts := [(0, .const (.int .i64 1)), (1, .const (.int .i64 1)), (2, .const (.int .i64 1))]) rfl zero_98 places_98 rfl) ?_
  refine lv (Val.build (parts := [(0, .const (.int .i64 2)), (1, .const (.int .i64 0)), (3, .const (.int .i64 1))]) rfl zero_98 places_98 rfl) ?_
  refine RunL.new (New.buildSlice (parts := [(0, .tmp 2), (1, .tmp 3), (2, .tmp 4), (3, .tmp 5), (4, .tmp 6)]) rfl sl_28 zero_98 rfl rfl rfl rfl) rfl rfl rfl (fun b7 => ?_)
  refine lv (Val.build (parts := [(0, .const (.int .i64 4)), (1, .tmp 1), (2, .const (.int .i64 1)), (3, .tmp 7)]) rfl zero_30 places_30 rfl) ?_
  refine RunL.sto (Sto.store rfl rfl (.there (.there .here)) ty_30 rfl rfl) rfl rfl ?_
  refine st ?_
  refine RunC.ret ?_
  exact RunE.ret (chg := []) (.r1 rfl (.agg rfl (.tail _ (.tail _ (.head _))) ty_30 rfl)) (fun _ hm => ⟨⟨b1, b7⟩, rfl, hm.pick (.cons (.there .here) rfl (.cons .here rfl .nil))⟩)
structure ExR where
  a : Nat
  b : Nat
  c : Nat
  d : Nat
  e : Nat
  f : Nat
def exRA (z : ExR) : RyA := ⟨atB exR.terms z.a, atB exR.prices z.b, atB [atB [334, 333, 333] z.c] z.d, atB exR.reports z.e, atB exR.paid z.f⟩
def exRB (z : ExR) : Blks := [(z.a, cO (exR.terms.map Tm.cells).flatten 109), (z.b, cO (exR.prices.map intC).flatten 3), (z.c, cO (([334, 333, 333] : List Int).map intC).flatten 3), (z.d, cO (([atB [334, 333, 333] z.c] : List (SA Int)).map SA.cell).flatten 27), (z.e, cO (exR.reports.map Rp.cells).flatten 111), (z.f, cO (exR.paid.map intC).flatten 3)]
theorem exRA_pl (z : ExR) : (exRA z).pl = exR := rfl
theorem exRA_ok {z : ExR} {w W : World} {tl : Blks} (hm : Mem W [] (exRB z ++ tl) w) : RyOk w (exRA z) := by
  have h : ∀ b o, (b, o) ∈ exRB z → w.heap[b]? = some o := fun b o hb => hm.at (List.mem_append_right _ (List.mem_append_left _ hb))
  refine ⟨cO_ok _ (h _ _ (.head _)) (fun _ => rfl), cO_ok _ (h _ _ (.tail _ (.head _))) (fun _ => rfl), cO_ok _ (h _ _ (.tail _ (.tail _ (.tail _ (.head _))))) (fun _ => rfl), fun x hx => ?_, cO_ok _ (h _ _ (.tail _ (.tail _ (.tail _ (.tail _ (.head _)))))) (fun _ => rfl), cO_ok _ (h _ _ (.tail _ (.tail _ (.tail _ (.tail _ (.tail _ (.head _))))))) (fun _ => rfl)⟩
  simp only [exRA, List.mem_cons, List.not_mem_nil, or_false] at hx
  subst hx
  exact cO_ok _ (h _ _ (.tail _ (.tail _ (.head _)))) (fun _ => rfl)
theorem exRA_sm (z : ExR) : RySm (exRA z) := ⟨by show (2 : Nat) ≤ _; decide, by show (1 : Nat) ≤ _; decide, by show (1 : Nat) ≤ _; decide, fun x hx => by
  simp only [exRA, List.mem_cons, List.not_mem_nil, or_false] at hx
  subst hx
  show (3 : Nat) ≤ _; decide, by show (2 : Nat) ≤ _; decide, by show (2 : Nat) ≤ _; decide⟩
theorem royal_calls (W : World) : Calls Tryz.prog 39 #[] W (News (fun z : ExR => (exRA z).v) exRB W) := by
  refine calls_start Tryz.func39 rfl rfl ?_
  refine st ?_
  refine RunL.new (New.alloc zero_35) rfl rfl rfl (fun b0 => ?_)
  refine st ?_
  refine lv (Val.build (parts := [(0, .const (.int .i64 20)), (1, .const (.int .i64 3)), (2, .const (.int .i64 30))]) rfl zero_109 places_109 rfl) ?_
  refine lv (Val.build (parts := [(0, .const (.int .i64 25)), (1, .const (.int .i64 12)), (2, .const (.int .i64 25))]) rfl zero_109 places_109 rfl) ?_
  refine RunL.new (New.buildSlice (parts := [(0, .tmp 1), (1, .tmp 2)]) rfl sl_31 zero_109 rfl rfl rfl rfl) rfl rfl rfl (fun b3 => ?_)
  refine RunL.new (New.buildSlice (parts := [(0, .const (.int .i64 99))]) rfl sl_27 zero_3 rfl rfl rfl rfl) rfl rfl rfl (fun b4 => ?_)
  refine RunL.new (New.buildSlice (parts := [(0, .const (.int .i64 334)), (1, .const (.int .i64 333)), (2, .const (.int .i64 333))]) rfl sl_27 zero_3 rfl rfl rfl rfl) rfl rfl rfl (fun b5 => ?_)
  refine RunL.new (New.buildSlice (parts := [(0, .tmp 5)]) rfl sl_32 zero_27 rfl rfl rfl rfl) rfl rfl rfl (fun b6 => ?_)
  refine lv (Val.build (parts := [(0, .const (.int .i64 0)), (2, .const (.int .i64 0)), (3, .const (.int .i64 5))]) rfl zero_111 places_111 rfl) ?_
  refine lv (Val.build (parts := [(0, .const (.int .i64 1)), (2, .const (.int .i64 4)), (3, .const (.int .i64 7))]) rfl zero_111 places_111 rfl) ?_
  refine RunL.new (New.buildSlice (parts := [(0, .tmp 7), (1, .tmp 8)]) rfl sl_33 zero_111 rfl rfl rfl rfl) rfl rfl rfl (fun b9 => ?_)
  refine RunL.new (New.buildSlice (parts := [(0, .const (.int .i64 0)), (1, .const (.int .i64 0))]) rfl sl_27 zero_3 rfl rfl rfl rfl) rfl rfl rfl (fun b10 => ?_)
  refine lv (Val.build (parts := [(0, .tmp 3), (1, .tmp 4), (2, .tmp 6), (3, .tmp 9), (4, .tmp 10)]) rfl zero_35 places_35 rfl) ?_
  refine RunL.sto (Sto.store rfl rfl (.there (.there (.there (.there (.there (.there .here)))))) ty_35 rfl rfl) rfl rfl ?_
  refine st ?_
  refine RunC.ret ?_
  exact RunE.ret (chg := []) (.r1 rfl (.agg rfl (.tail _ (.tail _ (.tail _ (.tail _ (.tail _ (.tail _ (.head _))))))) ty_35 rfl)) (fun _ hm => ⟨⟨b3, b4, b5, b6, b9, b10⟩, rfl, hm.pick (.cons (.there (.there (.there (.there (.there .here))))) rfl (.cons (.there (.there (.there (.there .here)))) rfl (.cons (.there (.there (.there .here))) rfl (.cons (.there (.there .here)) rfl (.cons (.there .here) rfl (.cons .here rfl .nil))))))⟩)
def exPA (z : Nat) : PsA := ⟨atB exP.cards z, exP.less, exP.loss⟩
def exPB (z : Nat) : Blks := [(z, cO (exP.cards.map Pt.cells).flatten 120)]
theorem exPA_pl (z : Nat) : (exPA z).pl = exP := rfl
theorem exPA_ok {z : Nat} {w W : World} {tl : Blks} (hm : Mem W [] (exPB z ++ tl) w) : (exPA z).cards.ok Pt.cells 5 w := by
  have h : ∀ b o, (b, o) ∈ exPB z → w.heap[b]? = some o := fun b o hb => hm.at (List.mem_append_right _ (List.mem_append_left _ hb))
  exact cO_ok _ (h _ _ (.head _)) (fun _ => rfl)
theorem prints_calls (W : World) : Calls Tryz.prog 40 #[] W (News (fun z : Nat => (exPA z).v) exPB W) := by
  refine calls_start Tryz.func40 rfl rfl ?_
  refine st ?_
  refine RunL.new (New.alloc zero_40) rfl rfl rfl (fun b0 => ?_)
  refine st ?_
  refine RunL.callP (isCall_func rfl ent_85) rfl rfl rfl (fun w hm => lspan_calls _ _ w) ?_
  refine RunL.callP (isCall_func rfl ent_85) rfl rfl rfl (fun w hm => lspan_calls _ _ w) ?_
  refine lv (Val.build (parts := [(0, .tmp 1), (1, .tmp 2)]) rfl zero_120 places_120 rfl) ?_
  refine RunL.new (New.buildSlice (parts := [(0, .tmp 3)]) rfl sl_36 zero_120 rfl rfl rfl rfl) rfl rfl rfl (fun b4 => ?_)
  refine RunL.callP (isCall_func rfl ent_85) rfl rfl rfl (fun w hm => lspan_calls _ _ w) ?_
  refine RunL.callP (isCall_func rfl ent_85) rfl rfl rfl (fun w hm => lspan_calls _ _ w) ?_
  refine lv (Val.build (parts := [(0, .tmp 4), (1, .tmp 5), (2, .tmp 6)]) rfl zero_40 places_40 rfl) ?_
  refine RunL.sto (Sto.store rfl rfl (.there .here) ty_40 rfl rfl) rfl rfl ?_
  refine st ?_
  refine RunC.ret ?_
  exact RunE.ret (chg := []) (.r1 rfl (.agg rfl (.tail _ (.head _)) ty_40 rfl)) (fun _ hm => ⟨b4, rfl, hm.pick (.cons .here rfl .nil)⟩)
end Go.Proofs.YtleamcmljcdapaaGreatDoor
namespace Go.Proofs.YtleamcmljcdapaaGreatDoor
open Go Go.Eng
theorem ent_10 : Enters Tryz.prog 10 := enters_of Tryz.func10 (by kernel_rfl) rfl
theorem ent_12 : Enters Tryz.prog 12 := enters_of Tryz.func12 (by kernel_rfl) rfl
theorem ent_14 : Enters Tryz.prog 14 := enters_of Tryz.func14 (by kernel_rfl) rfl
theorem ent_15 : Enters Tryz.prog 15 := enters_of Tryz.func15 (by kernel_rfl) rfl
theorem ent_17 : Enters Tryz.prog 17 := enters_of Tryz.func17 (by kernel_rfl) rfl
theorem ent_19 : Enters Tryz.prog 19 := enters_of Tryz.func19 (by kernel_rfl) rfl
theorem ent_21 : Enters Tryz.prog 21 := enters_of Tryz.func21 (by kernel_rfl) rfl
theorem ent_23 : Enters Tryz.prog 23 := enters_of Tryz.func23 (by kernel_rfl) rfl
theorem ent_24 : Enters Tryz.prog 24 := enters_of Tryz.func24 (by kernel_rfl) rfl
theorem ent_25 : Enters Tryz.prog 25 := enters_of Tryz.func25 (by kernel_rfl) rfl
theorem ent_27 : Enters Tryz.prog 27 := enters_of Tryz.func27 (by kernel_rfl) rfl
theorem ent_29 : Enters Tryz.prog 29 := enters_of Tryz.func29 (by kernel_rfl) rfl
theorem ent_30 : Enters Tryz.prog 30 := enters_of Tryz.func30 (by kernel_rfl) rfl
theorem ent_37 : Enters Tryz.prog 37 := enters_of Tryz.func37 (by kernel_rfl) rfl
theorem ent_38 : Enters Tryz.prog 38 := enters_of Tryz.func38 (by kernel_rfl) rfl
theorem ent_39 : Enters Tryz.prog 39 := enters_of Tryz.func39 (by kernel_rfl) rfl
theorem ent_40 : Enters Tryz.prog 40 := enters_of Tryz.func40 (by kernel_rfl) rfl
end Go.Proofs.YtleamcmljcdapaaGreatDoor
namespace Go.Bk
open Go Go.Eng Go.RowKit
theorem grow_news {β : Type} {P : Program} {f : FuncId} {args : Array Value} {w : World} {v : β → Value} {nw : β → Blks} {I : β → Prop} (h : Calls P f args w (Grow w [] v nw I)) : Calls P f args w (News (fun z : { b // I b } => v z.1) (fun z => nw z.1) w) :=
  calls_mono h (by rintro e w' ⟨b, h1, h2, h3⟩; exact ⟨⟨b, h1⟩, h2, h3⟩)
theorem rd_ok {α β : Type} {x : Except Int α} {pl : β → α} {ok : β → Prop} {z0 z : β} {e : Int} {t : α} (h : RdX x pl ok z0 (z, e)) (hx : x = .ok t) : pl z = t ∧ e = 0 ∧ ok z := by
  rcases h with ⟨t', h1, h2, h3, h4⟩ | ⟨k, h1, _⟩
  · rw [hx] at h1; cases h1; exact ⟨h2, h3, h4⟩
  · rw [hx] at h1; cases h1
end Go.Bk
namespace Go.Proofs.YtleamcmljcdapaaGreatDoor
open Go Go.Eng Go.Bk Go.RowKit

theorem wT (z : ExT) : writeV (tourX (exTA z).pl) (tourS (exTA z).pl) = .tuple #[.string (bs exTS), .int .i64 0] := by rw [exTA_pl, ← exT_text]; rfl
theorem wC (z : ExC) : writeV (cabX (exCA z).pl) (cabS (exCA z).pl) = .tuple #[.string (bs exCS), .int .i64 0] := by rw [exCA_pl, ← exC_text]; rfl
theorem wR (z : ExR) : writeV (royalX (exRA z).pl) (royalS (exRA z).pl) = .tuple #[.string (bs exRS), .int .i64 0] := by rw [exRA_pl, ← exR_text]; rfl
/-- What is read is compared with something. -/
theorem sameTX_calls (x : TrX) (h : TrXOk 10000 x) (u : TrA) (hs : TrSm u) (tl : Blks) (W0 w : World) (hm : Mem W0 [] (trB x ++ tl) w) (hU : TrOk w u) : Calls Tryz.prog 14 #[.agg x.cells.toArray, u.v] w (Pure (.bool (decide (x.pl = u.pl))) w) := by
  have h1 := rsameTour_calls x.toA u (h.sm (Nat.le_refl _)) hs w (trX_ok h hm) hU
  rw [TrX.toA_pl] at h1
  have e : x.toA.v = .agg x.cells.toArray := by unfold TrA.v; rw [h.cells]
  rw [e] at h1
  exact h1
theorem sameCX_calls (x : CbX) (h : CbXOk 10000 x) (u : CbA) (hs : CbS u) (tl : Blks) (W0 w : World) (hm : Mem W0 [] (cbB x ++ tl) w) (hU : CbOk w u) : Calls Tryz.prog 23 #[.agg x.cells.toArray, u.v] w (Pure (.bool (decide (x.pl = u.pl))) w) := by
  have h1 := rsameCabinet_calls x.toA u (h.sm (Nat.le_refl _)) hs w (cbX_ok h hm) hU
  rw [CbX.toA_pl] at h1
  have e : x.toA.v = .agg x.cells.toArray := by unfold CbA.v; rw [h.cells]
  rw [e] at h1
  exact h1
theorem sameRX_calls (x : RyX) (h : RyXOk 10000 x) (u : RyA) (hs : RySm u) (tl : Blks) (W0 w : World) (hm : Mem W0 [] (ryB x ++ tl) w) (hU : RyOk w u) : Calls Tryz.prog 24 #[.agg x.cells.toArray, u.v] w (Pure (.bool (decide (x.pl = u.pl))) w) := by
  have h1 := rsameRoyal_calls x.toA u (h.sm (Nat.le_refl _)) hs w (ryX_ok h hm) hU
  rw [RyX.toA_pl] at h1
  have e : x.toA.v = .agg x.cells.toArray := by unfold RyA.v; rw [h.cells]
  rw [e] at h1
  exact h1
theorem samePX_calls (x : PsX) (h : PsXOk x) (hl : x.cards.2.length ≤ 1000000) (u : PsA) (hs : u.cards.l.length ≤ 1000000) (tl : Blks) (W0 w : World) (hm : Mem W0 [] (ptB x.cards ++ tl) w) (hU : u.cards.ok Pt.cells 5 w) : Calls Tryz.prog 30 #[.agg x.cells.toArray, u.v] w (Pure (.bool (decide (x.pl = u.pl))) w) := by
  have h1 := rsamePrints_calls x.toA u w (own_sl (f := Pt.cells) (e := 120) (fun _ => rfl) (by decide) h (fun b o hb => (hm.newd b o (List.mem_append_left _ hb)).2)) hU hl hs
  have e : x.toA.v = .agg x.cells.toArray := by
    show Value.agg [(OL.sa x.cards).v, _, _, _, _].toArray = _
    rw [OL.sa_v h]
    rfl
  rw [e] at h1
  exact h1
theorem one_psX (x : PsX) : ∀ v ∈ x.cells, isOne v = true := fun v hv => by
  simp only [PsX.cells, List.mem_cons, List.not_mem_nil, or_false] at hv
  rcases hv with rfl | rfl | rfl | rfl | rfl <;> first | rfl | exact own_one _ _
theorem pure_true {P : Program} {f : FuncId} {args : Array Value} {w : World} {p : Prop} [Decidable p] (h : Calls P f args w (Pure (.bool (decide p)) w)) (hp : p) : Calls P f args w (Pure (.bool true) w) := by rw [decide_eq_true hp] at h; exact h
set_option maxHeartbeats 1000000 in
theorem alive_calls (W : World) (hL : Lw Tryz.prog W) : Calls Tryz.prog 9 #[] W (Pure (.bool true) W) := by
  refine calls_start Tryz.func9 rfl rfl ?_
  refine csr ?_
  refine vp rfl rfl rfl rfl ?_
  refine nsr ?_
  refine RunL.callN (isCall_func rfl ent_37) rfl rfl rfl (fun w hm => tour_calls w) (fun b18 => ?_)
  refine RunL.callP (isCall_func rfl ent_10) rfl rfl rfl (fun w hm => (by have h9 := WriteTour_calls (exTA b18) (exTA_sm b18) w (hL.mono hm) (exTA_ok hm); rw [wT] at h9; exact h9)) ?_
  iterate 5 refine vp rfl rfl rfl rfl ?_
  refine nnx ?_
  refine RunC.seq ?_
  refine RunC.keep (Sub.cons (t := 0) rfl (Sub.cons (t := 1) rfl (Sub.cons (t := 2) rfl (Sub.nil _)))) .nil ?_
  refine RunC.region ?_
  refine RunL.callN (isCall_func rfl ent_38) rfl rfl rfl (fun w hm => cabinet_calls w) (fun b23 => ?_)
  refine RunL.callP (isCall_func rfl ent_15) rfl rfl rfl (fun w hm => (by have h9 := WriteCabinet_calls (exCA b23) (exCA_s b23) w (hL.mono hm) (exCA_ok hm); rw [wC] at h9; exact h9)) ?_
  iterate 5 refine vp rfl rfl rfl rfl ?_
  refine nnx ?_
  refine RunC.seq ?_
  refine RunC.keep (Sub.cons (t := 0) rfl (Sub.cons (t := 1) rfl (Sub.cons (t := 2) rfl (Sub.cons (t := 3) rfl (Sub.cons (t := 4) rfl (Sub.nil _)))))) .nil ?_
  refine RunC.region ?_
  refine RunL.callN (isCall_func rfl ent_39) rfl rfl rfl (fun w hm => royal_calls w) (fun b28 => ?_)
  refine RunL.callP (isCall_func rfl ent_19) rfl rfl rfl (fun w hm => (by have h9 := WriteRoyal_calls (exRA b28) (exRA_sm b28) w (hL.mono hm) (exRA_ok hm); rw [wR] at h9; exact h9)) ?_
  iterate 5 refine vp rfl rfl rfl rfl ?_
  refine nnx ?_
  refine RunC.seq ?_
  refine RunC.keep (Sub.cons (t := 0) rfl (Sub.cons (t := 1) rfl (Sub.cons (t := 2) rfl (Sub.cons (t := 3) rfl (Sub.cons (t := 4) rfl (Sub.cons (t := 5) rfl (Sub.cons (t := 6) rfl (Sub.nil _)))))))) .nil ?_
  refine RunC.region ?_
  refine RunL.callN (isCall_func rfl ent_40) rfl rfl rfl (fun w hm => prints_calls w) (fun b33 => ?_)
  refine RunL.callNT (isCall_func rfl ent_25) rfl rfl rfl (fun w hm => (by have h9 := writePrints_ok (exPA b33) w (exPA_ok hm) exP_ok; simp only [exPA_pl, exP_bytes] at h9; exact grow_news h9)) (fun z34 => ?_)
  obtain ⟨y34, hy34⟩ := z34
  dsimp only
  iterate 5 refine vp rfl rfl rfl rfl ?_
  refine nnx ?_
  refine RunC.seq ?_
  refine RunC.seq ?_
  refine RunC.keep (Sub.cons (t := 0) rfl (Sub.cons (t := 1) rfl (Sub.cons (t := 2) rfl (Sub.cons (t := 3) rfl (Sub.cons (t := 4) rfl (Sub.cons (t := 5) rfl (Sub.cons (t := 6) rfl (Sub.cons (t := 7) rfl (Sub.cons (t := 8) rfl (Sub.nil _)))))))))) (Pick.skip (Pick.refl _)) ?_
  refine RunC.region ?_
  refine vp rfl rfl rfl rfl ?_
  refine RunL.val (Val.neqStr rfl rfl) rfl rfl rfl ?_
  refine vp rfl rfl rfl rfl ?_
  refine RunL.sure (dj := 39) false rfl (ndec rfl) ?_
  iterate 4 refine vp rfl rfl rfl rfl ?_
  refine RunL.sure (dj := 43) false rfl (by decide) ?_
  refine vp rfl rfl rfl rfl ?_
  refine RunL.val (Val.neqStr rfl rfl) rfl rfl rfl ?_
  refine vp rfl rfl rfl rfl ?_
  refine vp rfl rfl rfl rfl ?_
  refine RunL.sure (dj := 47) false rfl (ndec rfl) ?_
  iterate 4 refine vp rfl rfl rfl rfl ?_
  refine RunL.sure (dj := 51) false rfl (by decide) ?_
  refine vp rfl rfl rfl rfl ?_
  refine RunL.val (Val.neqStr rfl rfl) rfl rfl rfl ?_
  refine vp rfl rfl rfl rfl ?_
  refine vp rfl rfl rfl rfl ?_
  refine RunL.sure (dj := 55) false rfl (ndec rfl) ?_
  iterate 4 refine vp rfl rfl rfl rfl ?_
  refine RunL.sure (dj := 59) false rfl (by decide) ?_
  refine vp rfl rfl rfl rfl ?_
  refine RunL.new (New.buildSlice (parts := [(0, .const (.int .u8 80)), (1, .const (.int .u8 1)), (2, .const (.int .u8 0)), (3, .const (.int .u8 100)), (4, .const (.int .u8 0)), (5, .const (.int .u8 1)), (6, .const (.int .u8 1)), (7, .const (.int .u8 244)), (8, .const (.int .u8 0)), (9, .const (.int .u8 5)), (10, .const (.int .u8 0)), (11, .const (.int .u8 0)), (12, .const (.int .u8 0)), (13, .const (.int .u8 3)), (14, .const (.int .u8 0)), (15, .const (.int .u8 2)), (16, .const (.int .u8 0)), (17, .const (.int .u8 10)), (18, .const (.int .u8 0)), (19, .const (.int .u8 10)), (20, .const (.int .u8 29)), (21, .const (.int .u8 39))]) rfl sl_58 zero_5 rfl rfl rfl rfl) rfl rfl rfl (fun b61 => ?_)
  refine RunL.callP (isCall_func rfl ent_29) rfl rfl rfl (fun w hm => (pure_true (by rw [ownV_slice hy34]; exact rsameBytes_calls ⟨exPS, ownQ y34, ownK y34, 0, ownC y34⟩ (atB exPS b61) w (own_bytes hy34 (fun b o h => hm.at (.tail _ ((by first | exact List.mem_append_left _ h | exact List.mem_append_right _ (List.mem_append_left _ h)))))) (cO_ok (f := byC) exPS (hm.at (.head _)) (fun _ => rfl))) rfl)) ?_
  iterate 3 refine vp rfl rfl rfl rfl ?_
  refine RunL.sure (dj := 65) false rfl rfl ?_
  iterate 3 refine vp rfl rfl rfl rfl ?_
  refine nnx ?_
  refine RunC.cond rfl (fun h => absurd h (by decide)) ?_
  intro c0
  clear c0
  refine RunC.skip ?_
  refine RunE.next ?_
  refine csr ?_
  refine vp rfl rfl rfl rfl ?_
  refine RunL.callNA [(b61, _)] _ rfl (isCall_func rfl ent_12) rfl rfl rfl (fun w hm => grow_news (ReadTour_calls exTS w (hL.mono hm) (by rw [exT_len]; decide))) (fun z71 => ?_)
  obtain ⟨⟨x71, e71⟩, h71⟩ := z71
  obtain ⟨p71, e171, o71⟩ := rd_ok h71 exT_read
  subst e171
  dsimp only
  iterate 3 refine vp rfl rfl rfl rfl ?_
  refine RunL.new (New.alloc zero_25) rfl rfl rfl (fun b9 => ?_)
  refine RunL.sto (Sto.store (cs := zsrdT) (cs' := x71.cells) rfl rfl .here ty_25 rfl (paste_over rfl (one_trX _))) rfl rfl ?_
  refine vp rfl rfl rfl rfl ?_
  refine nsr ?_
  refine vp rfl rfl rfl rfl ?_
  refine RunL.callNA [(b9, _), (b61, _)] _ rfl (isCall_func rfl ent_17) rfl rfl rfl (fun w hm => grow_news (ReadCabinet_calls exCS w (hL.mono hm) (by rw [exC_len]; decide))) (fun z76 => ?_)
  obtain ⟨⟨x76, e76⟩, h76⟩ := z76
  obtain ⟨p76, e176, o76⟩ := rd_ok h76 exC_read
  subst e176
  dsimp only
  iterate 3 refine vp rfl rfl rfl rfl ?_
  refine RunL.new (New.alloc zero_30) rfl rfl rfl (fun b11 => ?_)
  refine RunL.sto (Sto.store (cs := zsrdC) (cs' := x76.cells) rfl rfl .here ty_30 rfl (paste_over rfl (one_cbX _))) rfl rfl ?_
  refine vp rfl rfl rfl rfl ?_
  refine nsr ?_
  refine vp rfl rfl rfl rfl ?_
  refine RunL.callNA [(b11, _), (b9, _), (b61, _)] _ rfl (isCall_func rfl ent_21) rfl rfl rfl (fun w hm => grow_news (ReadRoyal_calls exRS w (hL.mono hm) (by rw [exR_len]; decide))) (fun z81 => ?_)
  obtain ⟨⟨x81, e81⟩, h81⟩ := z81
  obtain ⟨p81, e181, o81⟩ := rd_ok h81 exR_read
  subst e181
  dsimp only
  iterate 3 refine vp rfl rfl rfl rfl ?_
  refine RunL.new (New.alloc zero_35) rfl rfl rfl (fun b13 => ?_)
  refine RunL.sto (Sto.store (cs := zsrdR) (cs' := x81.cells) rfl rfl .here ty_35 rfl (paste_over rfl (one_ryX _))) rfl rfl ?_
  refine vp rfl rfl rfl rfl ?_
  refine nsr ?_
  refine vp rfl rfl rfl rfl ?_
  refine RunL.callNA [(b13, _), (b11, _), (b9, _), (b61, _)] _ rfl (isCall_func rfl ent_27) rfl rfl rfl (fun w hm => (by rw [ownV_slice hy34]; exact grow_news (ReadPrints_calls exPS (ownQ y34) (ownK y34) 0 (ownC y34) w (own_bytes hy34 (fun b o h => hm.at (.tail _ (.tail _ (.tail _ (.tail _ ((by first | exact List.mem_append_right _ (List.mem_append_right _ (List.mem_append_right _ (List.mem_append_left _ h))) | exact List.mem_append_right _ (List.mem_append_right _ (List.mem_append_right _ (List.mem_append_right _ (List.mem_append_left _ h)))))))))))) (by decide)))) (fun z86 => ?_)
  obtain ⟨⟨x86, e86⟩, h86⟩ := z86
  obtain ⟨p86, e186, o86⟩ := rd_ok h86 exP_read
  subst e186
  dsimp only
  iterate 3 refine vp rfl rfl rfl rfl ?_
  refine RunL.new (New.alloc zero_40) rfl rfl rfl (fun b15 => ?_)
  refine RunL.sto (Sto.store (cs := zeroPX.cells) (cs' := x86.cells) rfl rfl .here ty_40 rfl (paste_over rfl (one_psX _))) rfl rfl ?_
  refine vp rfl rfl rfl rfl ?_
  refine nnx ?_
  refine RunC.seq ?_
  refine RunC.draw 28 fol_ (.cons .here rfl (.cons .here rfl (.cons .here rfl (.cons .here rfl (.cons .here rfl .nil))))) ?_
  refine va 0 rfl (Val.load_agg rfl (.tail _ (.tail _ (.tail _ (.head _)))) ty_25 rfl) rfl rfl rfl (.cons .here rfl (.cons .here rfl (.cons .here rfl (.cons .here rfl (.cons .here rfl .nil))))) rfl ?_
  refine RunA.one (i := 1) (by kernel_rfl) (by kernel_rfl) ?_
  refine RunI.callN rfl (isCall_func rfl ent_37) rfl rfl rfl (fun w hm => tour_calls w) (fun b90 => (RunK.toA (.cons .here rfl (.cons .here rfl (.cons .here rfl (.cons .here rfl (.cons .here rfl (.cons .here rfl (.cons .here rfl (.cons .here rfl (.cons .here rfl (.cons .here rfl (.cons .here rfl (.cons .here rfl .nil)))))))))))) (.cons (.there (.there (.there (.there (.there (.there (.there .here))))))) rfl (.cons (.there (.there (.there (.there (.there (.there (.there .here))))))) rfl (.cons (.there (.there (.there (.there (.there (.there (.there .here))))))) rfl (.cons (.there (.there (.there (.there (.there (.there (.there .here))))))) rfl (.cons (.there (.there (.there (.there (.there (.there (.there .here))))))) rfl .nil))))) rfl ?_))
  refine RunA.one (i := 2) (by kernel_rfl) (by kernel_rfl) ?_
  refine RunI.callP rfl (isCall_func rfl ent_14) rfl rfl rfl (fun w hm => (pure_true (sameTX_calls x71 o71 (exTA b90) (exTA_sm b90) [] W w (hm.pick (news' := trB x71 ++ []) (Pick.cnt fun x => by simp only [nC]; omega)) (exTA_ok hm)) p71)) (RunK.toA (.cons .here rfl (.cons .here rfl (.cons .here rfl (.cons .here rfl (.cons .here rfl (.cons .here rfl (.cons .here rfl (.cons .here rfl (.cons .here rfl (.cons .here rfl (.cons .here rfl (.cons .here rfl .nil)))))))))))) (.cons .here rfl (.cons .here rfl (.cons .here rfl (.cons .here rfl (.cons .here rfl (.cons .here rfl (.cons .here rfl (.cons .here rfl (.cons .here rfl (.cons .here rfl (.cons .here rfl (.cons .here rfl .nil)))))))))))) rfl ?_)
  refine va 3 rfl (Val.pure rfl) rfl rfl rfl (.cons .here rfl (.cons .here rfl (.cons .here rfl (.cons .here rfl (.cons .here rfl (.cons .here rfl (.cons .here rfl (.cons .here rfl (.cons .here rfl (.cons .here rfl (.cons .here rfl (.cons .here rfl .nil)))))))))))) rfl ?_
  refine RunA.sure (dj := 92) true rfl (by rfl) ?_
  refine va 4 rfl (Val.pure rfl) rfl rfl rfl (.cons .here rfl (.cons .here rfl (.cons .here rfl (.cons .here rfl (.cons .here rfl (.cons .here rfl (.cons .here rfl (.cons .here rfl (.cons .here rfl (.cons .here rfl (.cons .here rfl (.cons .here rfl .nil)))))))))))) rfl ?_
  refine va 5 rfl (Val.pure rfl) rfl rfl rfl (.cons .here rfl (.cons .here rfl (.cons .here rfl (.cons .here rfl (.cons .here rfl (.cons .here rfl (.cons .here rfl (.cons .here rfl (.cons .here rfl (.cons .here rfl (.cons .here rfl (.cons .here rfl .nil)))))))))))) rfl ?_
  refine va 6 rfl (Val.pure rfl) rfl rfl rfl (.cons .here rfl (.cons .here rfl (.cons .here rfl (.cons .here rfl (.cons .here rfl (.cons .here rfl (.cons .here rfl (.cons .here rfl (.cons .here rfl (.cons .here rfl (.cons .here rfl (.cons .here rfl .nil)))))))))))) rfl ?_
  refine va 7 rfl (Val.pure rfl) rfl rfl rfl (.cons .here rfl (.cons .here rfl (.cons .here rfl (.cons .here rfl (.cons .here rfl (.cons .here rfl (.cons .here rfl (.cons .here rfl (.cons .here rfl (.cons .here rfl (.cons .here rfl (.cons .here rfl .nil)))))))))))) rfl ?_
  refine RunA.sure (dj := 96) true rfl (by rfl) ?_
  refine va 8 rfl (Val.load_agg rfl (.tail _ (.tail _ (.tail _ (.tail _ (.tail _ (.tail _ (.tail _ (.tail _ (.tail _ (.head _)))))))))) ty_30 rfl) rfl rfl rfl (.cons .here rfl (.cons .here rfl (.cons .here rfl (.cons .here rfl (.cons .here rfl (.cons .here rfl (.cons .here rfl (.cons .here rfl (.cons .here rfl (.cons .here rfl (.cons .here rfl (.cons .here rfl .nil)))))))))))) rfl ?_
  refine RunA.one (i := 9) (by kernel_rfl) (by kernel_rfl) ?_
  refine RunI.callN rfl (isCall_func rfl ent_38) rfl rfl rfl (fun w hm => cabinet_calls w) (fun b98 => (RunK.toA (.cons .here rfl (.cons .here rfl (.cons .here rfl (.cons .here rfl (.cons .here rfl (.cons .here rfl (.cons .here rfl (.cons .here rfl (.cons .here rfl (.cons .here rfl (.cons .here rfl (.cons .here rfl (.cons .here rfl (.cons .here rfl .nil)))))))))))))) (.cons (.there (.there .here)) rfl (.cons (.there (.there .here)) rfl (.cons (.there (.there .here)) rfl (.cons (.there (.there .here)) rfl (.cons (.there (.there .here)) rfl (.cons (.there (.there .here)) rfl (.cons (.there (.there .here)) rfl (.cons (.there (.there .here)) rfl (.cons (.there (.there .here)) rfl (.cons (.there (.there .here)) rfl (.cons (.there (.there .here)) rfl (.cons (.there (.there .here)) rfl .nil)))))))))))) rfl ?_))
  refine RunA.one (i := 10) (by kernel_rfl) (by kernel_rfl) ?_
  refine RunI.callP rfl (isCall_func rfl ent_23) rfl rfl rfl (fun w hm => (pure_true (sameCX_calls x76 o76 (exCA b98) (exCA_s b98) [] W w (hm.pick (news' := cbB x76 ++ []) (Pick.cnt fun x => by simp only [nC]; omega)) (exCA_ok hm)) p76)) (RunK.toA (.cons .here rfl (.cons .here rfl (.cons .here rfl (.cons .here rfl (.cons .here rfl (.cons .here rfl (.cons .here rfl (.cons .here rfl (.cons .here rfl (.cons .here rfl (.cons .here rfl (.cons .here rfl (.cons .here rfl (.cons .here rfl .nil)))))))))))))) (.cons .here rfl (.cons .here rfl (.cons .here rfl (.cons .here rfl (.cons .here rfl (.cons .here rfl (.cons .here rfl (.cons .here rfl (.cons .here rfl (.cons .here rfl (.cons .here rfl (.cons .here rfl (.cons .here rfl (.cons .here rfl .nil)))))))))))))) rfl ?_)
  refine va 11 rfl (Val.pure rfl) rfl rfl rfl (.cons .here rfl (.cons .here rfl (.cons .here rfl (.cons .here rfl (.cons .here rfl (.cons .here rfl (.cons .here rfl (.cons .here rfl (.cons .here rfl (.cons .here rfl (.cons .here rfl (.cons .here rfl (.cons .here rfl (.cons .here rfl .nil)))))))))))))) rfl ?_
  refine va 12 rfl (Val.pure rfl) rfl rfl rfl (.cons .here rfl (.cons .here rfl (.cons .here rfl (.cons .here rfl (.cons .here rfl (.cons .here rfl (.cons .here rfl (.cons .here rfl (.cons .here rfl (.cons .here rfl (.cons .here rfl (.cons .here rfl (.cons .here rfl (.cons .here rfl .nil)))))))))))))) rfl ?_
  refine RunA.sure (dj := 101) true rfl (by rfl) ?_
  refine va 13 rfl (Val.pure rfl) rfl rfl rfl (.cons .here rfl (.cons .here rfl (.cons .here rfl (.cons .here rfl (.cons .here rfl (.cons .here rfl (.cons .here rfl (.cons .here rfl (.cons .here rfl (.cons .here rfl (.cons .here rfl (.cons .here rfl (.cons .here rfl (.cons .here rfl .nil)))))))))))))) rfl ?_
  refine va 14 rfl (Val.pure rfl) rfl rfl rfl (.cons .here rfl (.cons .here rfl (.cons .here rfl (.cons .here rfl (.cons .here rfl (.cons .here rfl (.cons .here rfl (.cons .here rfl (.cons .here rfl (.cons .here rfl (.cons .here rfl (.cons .here rfl (.cons .here rfl (.cons .here rfl .nil)))))))))))))) rfl ?_
  refine va 15 rfl (Val.pure rfl) rfl rfl rfl (.cons .here rfl (.cons .here rfl (.cons .here rfl (.cons .here rfl (.cons .here rfl (.cons .here rfl (.cons .here rfl (.cons .here rfl (.cons .here rfl (.cons .here rfl (.cons .here rfl (.cons .here rfl (.cons .here rfl (.cons .here rfl .nil)))))))))))))) rfl ?_
  refine va 16 rfl (Val.pure rfl) rfl rfl rfl (.cons .here rfl (.cons .here rfl (.cons .here rfl (.cons .here rfl (.cons .here rfl (.cons .here rfl (.cons .here rfl (.cons .here rfl (.cons .here rfl (.cons .here rfl (.cons .here rfl (.cons .here rfl (.cons .here rfl (.cons .here rfl .nil)))))))))))))) rfl ?_
  refine RunA.sure (dj := 105) true rfl (by rfl) ?_
  refine va 17 rfl (Val.load_agg rfl (.tail _ (.tail _ (.tail _ (.tail _ (.tail _ (.tail _ (.tail _ (.tail _ (.tail _ (.tail _ (.head _))))))))))) ty_35 rfl) rfl rfl rfl (.cons .here rfl (.cons .here rfl (.cons .here rfl (.cons .here rfl (.cons .here rfl (.cons .here rfl (.cons .here rfl (.cons .here rfl (.cons .here rfl (.cons .here rfl (.cons .here rfl (.cons .here rfl (.cons .here rfl (.cons .here rfl .nil)))))))))))))) rfl ?_
  refine RunA.one (i := 18) (by kernel_rfl) (by kernel_rfl) ?_
  refine RunI.callN rfl (isCall_func rfl ent_39) rfl rfl rfl (fun w hm => royal_calls w) (fun b107 => (RunK.toA (.cons .here rfl (.cons .here rfl (.cons .here rfl (.cons .here rfl (.cons .here rfl (.cons .here rfl (.cons .here rfl (.cons .here rfl (.cons .here rfl (.cons .here rfl (.cons .here rfl (.cons .here rfl (.cons .here rfl (.cons .here rfl (.cons .here rfl (.cons .here rfl (.cons .here rfl (.cons .here rfl (.cons .here rfl (.cons .here rfl .nil)))))))))))))))))))) (.cons (.there (.there (.there (.there (.there (.there .here)))))) rfl (.cons (.there (.there (.there (.there (.there (.there .here)))))) rfl (.cons (.there (.there (.there (.there (.there (.there .here)))))) rfl (.cons (.there (.there (.there (.there (.there (.there .here)))))) rfl (.cons (.there (.there (.there (.there (.there (.there .here)))))) rfl (.cons (.there (.there (.there (.there (.there (.there .here)))))) rfl (.cons (.there (.there (.there (.there (.there (.there .here)))))) rfl (.cons (.there (.there (.there (.there (.there (.there .here)))))) rfl (.cons (.there (.there (.there (.there (.there (.there .here)))))) rfl (.cons (.there (.there (.there (.there (.there (.there .here)))))) rfl (.cons (.there (.there (.there (.there (.there (.there .here)))))) rfl (.cons (.there (.there (.there (.there (.there (.there .here)))))) rfl (.cons (.there (.there (.there (.there (.there (.there .here)))))) rfl (.cons (.there (.there (.there (.there (.there (.there .here)))))) rfl .nil)))))))))))))) rfl ?_))
  refine RunA.one (i := 19) (by kernel_rfl) (by kernel_rfl) ?_
  refine RunI.callP rfl (isCall_func rfl ent_24) rfl rfl rfl (fun w hm => (pure_true (sameRX_calls x81 o81 (exRA b107) (exRA_sm b107) [] W w (hm.pick (news' := ryB x81 ++ []) (Pick.cnt fun x => by simp only [nC]; omega)) (exRA_ok hm)) p81)) (RunK.toA (.cons .here rfl (.cons .here rfl (.cons .here rfl (.cons .here rfl (.cons .here rfl (.cons .here rfl (.cons .here rfl (.cons .here rfl (.cons .here rfl (.cons .here rfl (.cons .here rfl (.cons .here rfl (.cons .here rfl (.cons .here rfl (.cons .here rfl (.cons .here rfl (.cons .here rfl (.cons .here rfl (.cons .here rfl (.cons .here rfl .nil)))))))))))))))))))) (.cons .here rfl (.cons .here rfl (.cons .here rfl (.cons .here rfl (.cons .here rfl (.cons .here rfl (.cons .here rfl (.cons .here rfl (.cons .here rfl (.cons .here rfl (.cons .here rfl (.cons .here rfl (.cons .here rfl (.cons .here rfl (.cons .here rfl (.cons .here rfl (.cons .here rfl (.cons .here rfl (.cons .here rfl (.cons .here rfl .nil)))))))))))))))))))) rfl ?_)
  refine va 20 rfl (Val.pure rfl) rfl rfl rfl (.cons .here rfl (.cons .here rfl (.cons .here rfl (.cons .here rfl (.cons .here rfl (.cons .here rfl (.cons .here rfl (.cons .here rfl (.cons .here rfl (.cons .here rfl (.cons .here rfl (.cons .here rfl (.cons .here rfl (.cons .here rfl (.cons .here rfl (.cons .here rfl (.cons .here rfl (.cons .here rfl (.cons .here rfl (.cons .here rfl .nil)))))))))))))))))))) rfl ?_
  refine va 21 rfl (Val.pure rfl) rfl rfl rfl (.cons .here rfl (.cons .here rfl (.cons .here rfl (.cons .here rfl (.cons .here rfl (.cons .here rfl (.cons .here rfl (.cons .here rfl (.cons .here rfl (.cons .here rfl (.cons .here rfl (.cons .here rfl (.cons .here rfl (.cons .here rfl (.cons .here rfl (.cons .here rfl (.cons .here rfl (.cons .here rfl (.cons .here rfl (.cons .here rfl .nil)))))))))))))))))))) rfl ?_
  refine RunA.sure (dj := 110) true rfl (by rfl) ?_
  refine va 22 rfl (Val.pure rfl) rfl rfl rfl (.cons .here rfl (.cons .here rfl (.cons .here rfl (.cons .here rfl (.cons .here rfl (.cons .here rfl (.cons .here rfl (.cons .here rfl (.cons .here rfl (.cons .here rfl (.cons .here rfl (.cons .here rfl (.cons .here rfl (.cons .here rfl (.cons .here rfl (.cons .here rfl (.cons .here rfl (.cons .here rfl (.cons .here rfl (.cons .here rfl .nil)))))))))))))))))))) rfl ?_
  refine va 23 rfl (Val.pure rfl) rfl rfl rfl (.cons .here rfl (.cons .here rfl (.cons .here rfl (.cons .here rfl (.cons .here rfl (.cons .here rfl (.cons .here rfl (.cons .here rfl (.cons .here rfl (.cons .here rfl (.cons .here rfl (.cons .here rfl (.cons .here rfl (.cons .here rfl (.cons .here rfl (.cons .here rfl (.cons .here rfl (.cons .here rfl (.cons .here rfl (.cons .here rfl .nil)))))))))))))))))))) rfl ?_
  refine va 24 rfl (Val.pure rfl) rfl rfl rfl (.cons .here rfl (.cons .here rfl (.cons .here rfl (.cons .here rfl (.cons .here rfl (.cons .here rfl (.cons .here rfl (.cons .here rfl (.cons .here rfl (.cons .here rfl (.cons .here rfl (.cons .here rfl (.cons .here rfl (.cons .here rfl (.cons .here rfl (.cons .here rfl (.cons .here rfl (.cons .here rfl (.cons .here rfl (.cons .here rfl .nil)))))))))))))))))))) rfl ?_
  refine va 25 rfl (Val.pure rfl) rfl rfl rfl (.cons .here rfl (.cons .here rfl (.cons .here rfl (.cons .here rfl (.cons .here rfl (.cons .here rfl (.cons .here rfl (.cons .here rfl (.cons .here rfl (.cons .here rfl (.cons .here rfl (.cons .here rfl (.cons .here rfl (.cons .here rfl (.cons .here rfl (.cons .here rfl (.cons .here rfl (.cons .here rfl (.cons .here rfl (.cons .here rfl .nil)))))))))))))))))))) rfl ?_
  refine RunA.sure (dj := 114) true rfl (by rfl) ?_
  refine va 26 rfl (Val.load_agg rfl (.tail _ (.tail _ (.tail _ (.tail _ (.tail _ (.tail _ (.tail _ (.tail _ (.tail _ (.tail _ (.tail _ (.tail _ (.tail _ (.tail _ (.tail _ (.head _)))))))))))))))) ty_40 rfl) rfl rfl rfl (.cons .here rfl (.cons .here rfl (.cons .here rfl (.cons .here rfl (.cons .here rfl (.cons .here rfl (.cons .here rfl (.cons .here rfl (.cons .here rfl (.cons .here rfl (.cons .here rfl (.cons .here rfl (.cons .here rfl (.cons .here rfl (.cons .here rfl (.cons .here rfl (.cons .here rfl (.cons .here rfl (.cons .here rfl (.cons .here rfl .nil)))))))))))))))))))) rfl ?_
  refine RunA.one (i := 27) (by kernel_rfl) (by kernel_rfl) ?_
  refine RunI.callN rfl (isCall_func rfl ent_40) rfl rfl rfl (fun w hm => prints_calls w) (fun b116 => (RunK.toA (.cons .here rfl (.cons .here rfl (.cons .here rfl (.cons .here rfl (.cons .here rfl (.cons .here rfl (.cons .here rfl (.cons .here rfl (.cons .here rfl (.cons .here rfl (.cons .here rfl (.cons .here rfl (.cons .here rfl (.cons .here rfl (.cons .here rfl (.cons .here rfl (.cons .here rfl (.cons .here rfl (.cons .here rfl (.cons .here rfl (.cons .here rfl .nil))))))))))))))))))))) (.cons (.there .here) rfl (.cons (.there .here) rfl (.cons (.there .here) rfl (.cons (.there .here) rfl (.cons (.there .here) rfl (.cons (.there .here) rfl (.cons (.there .here) rfl (.cons (.there .here) rfl (.cons (.there .here) rfl (.cons (.there .here) rfl (.cons (.there .here) rfl (.cons (.there .here) rfl (.cons (.there .here) rfl (.cons (.there .here) rfl (.cons (.there .here) rfl (.cons (.there .here) rfl (.cons (.there .here) rfl (.cons (.there .here) rfl (.cons (.there .here) rfl (.cons (.there .here) rfl .nil)))))))))))))))))))) rfl ?_))
  refine RunA.toB (by kernel_rfl) ?_
  refine RunB.one (i := 28) (by kernel_rfl) ?_
  refine RunI.callP rfl (isCall_func rfl ent_30) rfl rfl rfl (fun w hm => (pure_true (samePX_calls x86 o86 (by have h9 := congrArg (fun q : Ps => q.cards.length) p86; have h8 : x86.cards.2.length = 1 := h9; omega) (exPA b116) (by show (1 : Nat) ≤ _; decide) [] W w (hm.pick (news' := ptB x86.cards ++ []) (Pick.cnt fun x => by simp only [nC]; omega)) (exPA_ok hm)) p86)) (RunK.toB ?_)
  refine RunB.one (i := 29) (by kernel_rfl) ?_
  refine RunI.val rfl (Val.pure rfl) rfl rfl rfl (RunK.toB ?_)
  refine RunB.one (i := 30) (by kernel_rfl) ?_
  refine RunI.val rfl (Val.pure rfl) rfl rfl rfl (RunK.toB ?_)
  refine RunB.sure (dj := 119) true rfl (by rfl) ?_
  refine RunB.one (i := 31) (by kernel_rfl) ?_
  refine RunI.val rfl (Val.pure rfl) rfl rfl rfl (RunK.toB ?_)
  refine RunB.one (i := 32) (by kernel_rfl) ?_
  refine RunI.val rfl (Val.pure rfl) rfl rfl rfl (RunK.toB ?_)
  refine RunB.one (i := 33) (by kernel_rfl) ?_
  refine RunI.val rfl (Val.pure rfl) rfl rfl rfl (RunK.toB ?_)
  refine RunB.one (i := 34) (by kernel_rfl) ?_
  refine RunI.val rfl (Val.pure rfl) rfl rfl rfl (RunK.toB ?_)
  refine RunB.done (by kernel_rfl) ?_
  refine RunE.next ?_
  refine RunC.ret ?_
  exact RunE.retP (.r1 rfl (.tmp rfl)) (by first | rfl | simp)
end Go.Proofs.YtleamcmljcdapaaGreatDoor
namespace Go.Proofs.YtleamcmljcdapaaGreatDoor
open Go Go.Eng
theorem ent_9 : Enters Tryz.prog 9 := enters_of Tryz.func9 (by kernel_rfl) rfl
end Go.Proofs.YtleamcmljcdapaaGreatDoor
namespace Go.Eng
open Go Go.RowKit Go.ChangeShapes Go.WideShapes Go.ChangeAt
/-- The plain wrap, with the world's shape and what is listed. -/
theorem handed_shaped_and {H : Type} {enc : TypeId × Value → H} {a : Assume} {C : Checked} {os : Os} {f : FuncId} {fn : Func} {s : ChangeSpec} {conds : List PathCond} {apart fresh handsOn again : Bool} {X : World → Array Value → Prop}
    (hX : ∀ (w w' : World) (args : Array Value), w.heap = w'.heap → X w args → X w' args)
    (own : ownKnob C.prog.godebug = none) (started : os.Started) (noInit : C.prog.inits.idxOf? f = none) (hfn : C.prog.funcs[f]? = some fn)
    (witness : ∃ (w : World) (tape : Tape) (i : Input), w.os = os ∧ (w.forCall tape i).Shaped C.prog ∧ i.vars = [] ∧ Input.okWide C.prog (w.forCall tape i) .any w.heap.size f i ∧
      ((s.pre enc C.prog fn conds apart (w.forCall tape i).memory i.args ∧ X (w.forCall tape i).memory i.args) ∧ sizedMet enc C.prog fn (OpenSpec.ofChange s) apart (w.forCall tape i).memory i.args) ∧ a.holds C.prog (lone (Frame.enter C.prog f i.args .normal) [] (w.forCall tape i)))
    (contract : ∀ (W : World) (base : Nat) (args : Array Value) (ds gs : List (DataW H)) (before : List MemPlace),
      (∀ (j : Nat) t v, fn.params[j]? = some t → args[j]? = some v → Value.okWide C.prog W .any base t v) →
      DataW.Whole enc C.prog fn.params.toList s.vars apart W args.toList ds gs before → W.ShapedOpen C.prog → X W args →
      Calls C.prog f args W fun e W' => ∃ v, e = .returned v ∧ s.post enc C.prog fn apart fresh handsOn again W args v W') :
    ReturnsInHanded a C os f .any (fun w args => (s.pre enc C.prog fn conds apart w args ∧ X w args) ∧ sizedMet enc C.prog fn (OpenSpec.ofChange s) apart w args) (s.post enc C.prog fn apart fresh handsOn again) := by
  refine returnsInHanded_of_calls own started noInit witness ?_
  intro w tape i _ hsh _ hok hpre hholds
  obtain ⟨_, _, _, fn', hfn', _, _, _, _, hval⟩ := hok
  have e : fn' = fn := Option.some.inj (hfn'.symm.trans hfn)
  subst e
  obtain ⟨⟨⟨ds, gs, before, hw, hc⟩, hx⟩, hz⟩ := hpre
  have hw' := DataW.Whole.of_heap (w' := w.forCall tape i) (by rfl) hw
  refine (contract (w.forCall tape i) w.heap.size i.args ds gs before hval hw' hsh (hX _ _ _ (by rfl) hx)).mono fun e W' ⟨v, he, hp⟩ => ?_
  subst he
  exact ChangeSpec.post_blind hp
/-- As law_contract, at one world. -/
theorem law_contractW {H : Type} {enc : TypeId × Value → H} {P : Program} {f : Func} {s : ChangeSpec} {n : Nat} {shs : List Sh} {tb : TypeId} {F : FuncId} (hl : laidOutB P = true) (hsh : f.params.toList.mapM (shapeB P n) = some shs)
    (hp : f.params.toList.all (fun t => P.readableRec t && decide (t < P.types.size)) = true) (hr : f.resultTypes = #[tb]) (hb : P.underlying tb = some .bool) (hvars : s.vars = [])
    (hfn : ∀ ds : List (DataW H), ds.length = f.params.toList.length → s.fn H (ds ++ []) = { results := [.lit (.bool true)], args := ds })
    {W : World} (walk : ∀ vs : List Value, RdAll W shs vs → Calls P F vs.toArray W (Pure (.bool true) W)) {base : Nat} {args : Array Value} {ds gs : List (DataW H)} {before : List MemPlace} (hval : ∀ (j : Nat) t v, f.params[j]? = some t → args[j]? = some v → Value.okWide P W .any base t v)
    (hW : DataW.Whole enc P f.params.toList s.vars false W args.toList ds gs before) :
    Calls P F args W fun e W' => ∃ v, e = .returned v ∧ s.post enc P f false true false false W args v W' := by
  have hW' := hW
  obtain ⟨p, q, hA, hV, rfl, hfz, hnd⟩ := hW
  rw [hvars] at hV
  obtain ⟨rfl, rfl⟩ := trodVars_none hV
  have hrd : RdAll W shs args.toList := rdAll_of hsh (fun j t v hj hv => hval j t v (by simpa using hj) (by simpa using hv)) hA
  have hlen : ds.length = f.params.toList.length := by
    clear hW' hval hrd hfn hp hsh hfz hnd hV
    generalize f.params.toList = ts at hA
    generalize args.toList = vs at hA
    induction ts generalizing vs ds p with
    | nil => obtain ⟨_, rfl, _⟩ := trodAll_nil hA; rfl
    | cons t ts ih =>
      obtain ⟨v, vs', d, ds', p, q, rfl, rfl, rfl, h0, hr⟩ := trodAll_cons hA
      simp [ih _ _ hr]
  refine (walk args.toList hrd).mono fun e W' ⟨he, hm⟩ => ?_
  subst he
  have bel := hm.below
  refine ⟨_, rfl, ds, [], p ++ [], [], p, [], hW', ?_, ?_, ?_, bel.frame _, fun h => by cases h⟩
  · rw [hfn ds hlen, hr]
    exact trodAll_mk1 (shut_bool hb _)
  · rw [hfn ds hlen]
    exact trodAll_below hl bel hp hA
  · rw [hvars, hfn ds hlen]
    rfl
/-- A listed error: the variable holds an interface value. -/
theorem laid_iface {P : Program} {n nm : String} {d : DataW Unit} {r : List (String × DataW Unit)} {W : World} {g : Nat} {ti : TypeId} {ms : Array (String × TypeId)}
    (h : laidMet P ((n, .iface nm d) :: r) W) (hg : P.globalNamed n = some g) (ht : (P.globals[g]?).map (·.type) = some ti) (hi : P.underlying ti = some (.interface ms)) : ∃ te pe, W.cell? ⟨g, 0, none⟩ = some (.iface te pe) := by
  obtain ⟨ps, ⟨g0, t0, cs0, f0, p0, q0, hg0, ht0, hv0, hd0, _, e0⟩, _, hrows⟩ := h
  obtain rfl := Option.some.inj (hg.symm.trans hg0)
  obtain rfl := Option.some.inj (ht.symm.trans ht0)
  obtain ⟨f', u, v, hcs, _, _⟩ := iface_of_trod hi hd0
  have h1 := World.var?_cell hg0 hv0 0
  have e : cs0 = #[.iface u v] := by
    obtain ⟨l⟩ := cs0
    simp only at hcs
    rw [hcs]
  rw [e] at h1
  exact ⟨u, v, by simpa using h1⟩
end Go.Eng
namespace Go.Proofs.YtleamcmljcdapaaGreatDoor
open Go Go.Eng Go.Bk Go.RowKit

abbrev laidL : List (String × DataW Unit) := [("math/bits.deBruijn32tab", Rows.laid_math_bits_deBruijn32tab), ("math/bits.deBruijn64tab", Rows.laid_math_bits_deBruijn64tab), ("internal/strconv.uint64pow10", Rows.laid_internal_strconv_uint64pow10), ("unicode/utf8.acceptRanges", Rows.laid_unicode_utf8_acceptRanges), ("strconv.ErrRange", Rows.laid_strconv_ErrRange), ("strconv.ErrSyntax", Rows.laid_strconv_ErrSyntax), ("unicode/utf8.first", Rows.laid_unicode_utf8_first)]
theorem gMax : ((begin Tryz.prog (fun _ _ => 0) default).world.heap[0]?).bind Obj.row? = some (#[.int .i64 0], 3) := by kernel_rfl
theorem lw_of {W : World} (hsh : W.ShapedOpen Tryz.prog) (hL : laidMetH Tryz.prog laidL W) : Lw Tryz.prog W := by
  rw [MakeChecks.laidMetH_plain _ _ _ (by kernel_rfl)] at hL
  have h3 := hL.tail.tail
  have h5 := h3.tail.tail
  obtain ⟨te, pe, h1⟩ := laid_iface h5 (g := 3) (by kernel_rfl) (by kernel_rfl) Tryz.underlying150
  obtain ⟨te2, pe2, h2⟩ := laid_iface h5.tail (g := 2) (by kernel_rfl) (by kernel_rfl) Tryz.underlying150
  exact ⟨cell_of_shapedOpen_int hsh (by decide) gMax rfl (by kernel_rfl) (by kernel_rfl) Tryz.underlying3,
    Lib.tabIs_of_head (g := 1) (t := 256) (n := 20) (e := 241) (by kernel_rfl) (by kernel_rfl) (by kernel_rfl) (by kernel_rfl) (by kernel_rfl) (by kernel_rfl) h3,
    ⟨_, h2, .inr ⟨_, _, rfl⟩⟩, ⟨_, h1, .inr ⟨_, _, rfl⟩⟩⟩
theorem laid_fits (os : Os) : (World.holding Tryz.prog os ⟨#[], #[], []⟩).layFits Tryz.prog laidL [] = true := by kernel_rfl
theorem laid_ifaces (os : Os) : (World.holding Tryz.prog os ⟨#[], #[], []⟩).layIfaces Tryz.prog laidL (World.laidAll Tryz.prog os laidL) = true := by kernel_rfl
end Go.Proofs.YtleamcmljcdapaaGreatDoor
namespace Go.Bk
open Go Go.Eng Go.RowKit
theorem reads_no {α : Type} {step : α → List Str → Option α} {z : α} {ok : α → Bool} {text : α → Str} {s : Str} (hl : s.length ≤ 4096) (hn : ∀ x, ok x = true → text x ≠ s) : readX step z ok text s = .error 8 := by
  cases h : readX step z ok text s with
  | ok x =>
    obtain ⟨h1, h2, _⟩ := readX_inv h
    exact absurd h2 (hn x h1)
  | error k =>
    unfold readX at h
    rw [if_neg (by omega)] at h
    split at h
    · split at h
      · cases h
      · cases h; rfl
    · cases h; rfl
/-! ## Tours -/
theorem tour_ne (t : Tr) : tourLs t ≠ [] := by simp [tourLs]
/-! ## Cabinets -/
/-! ## Royalties -/
end Go.Bk
namespace Go.Bk
open Go Go.Eng Go.RowKit
/-! ## Parts -/
def cutL (a : UInt8) : Str → List Str
  | [] => [[]]
  | c :: s => if c = a then [] :: cutL a s else match cutL a s with
    | [] => [[c]]
    | w :: r => (c :: w) :: r
theorem cutL_ne (a : UInt8) : ∀ s, cutL a s ≠ []
  | [] => by simp [cutL]
  | c :: s => by
    unfold cutL
    split
    · simp
    · split <;> simp
theorem cutL_cons {a c : UInt8} {s w : Str} {r : List Str} (h : c ≠ a) (e : cutL a s = w :: r) : cutL a (c :: s) = (c :: w) :: r := by
  unfold cutL
  rw [if_neg h, e]
theorem cutL_hit {a : UInt8} {s : Str} : cutL a (a :: s) = [] :: cutL a s := by
  rw [cutL, if_pos rfl]
theorem cutL_app {a : UInt8} : ∀ {u s w : Str} {r : List Str}, a ∉ u → cutL a s = w :: r → cutL a (u ++ s) = (u ++ w) :: r
  | [], _, _, _, _, e => e
  | c :: u, s, w, r, h, e => by
    have hc : c ≠ a := fun e => h (by rw [e]; exact List.mem_cons_self ..)
    exact cutL_cons hc (cutL_app (u := u) (fun hm => h (List.mem_cons_of_mem _ hm)) e)
theorem cutL_join {a : UInt8} : ∀ {ws : List Str}, ws ≠ [] → (∀ w ∈ ws, a ∉ w) → cutL a (Lib.join ws [a]) = ws
  | [], h, _ => absurd rfl h
  | [w], _, h => by
    rw [Lib.join_one]
    have h1 := cutL_app (a := a) (u := w) (s := []) (w := []) (r := []) (h w (by simp)) rfl
    simpa using h1
  | w :: v :: ws, _, h => by
    have e : Lib.join (w :: v :: ws) [a] = w ++ a :: Lib.join (v :: ws) [a] := by simp [Lib.join, List.intercalate]
    have h1 := cutL_join (a := a) (ws := v :: ws) (by simp) (fun x hx => h x (List.mem_cons_of_mem _ hx))
    rw [e, cutL_app (h w (by simp)) (cutL_hit.trans (by rw [h1]))]
    simp
theorem cutL_inv (a : UInt8) : ∀ s, Lib.join (cutL a s) [a] = s
  | [] => rfl
  | c :: s => by
    have ih := cutL_inv a s
    by_cases h : c = a
    · subst h
      rw [cutL_hit]
      cases hc : cutL c s with
      | nil => exact absurd hc (cutL_ne _ _)
      | cons w r =>
        rw [hc] at ih
        have e : Lib.join ([] :: w :: r) [c] = [] ++ c :: Lib.join (w :: r) [c] := by simp [Lib.join, List.intercalate]
        rw [e, ih]
        rfl
    · cases hc : cutL a s with
      | nil => exact absurd hc (cutL_ne _ _)
      | cons w r =>
        rw [cutL_cons h hc]
        rw [hc] at ih
        cases r with
        | nil => rw [Lib.join_one] at ih ⊢; rw [ih]
        | cons v r =>
          have e : ∀ w : Str, Lib.join (w :: v :: r) [a] = w ++ a :: Lib.join (v :: r) [a] := fun w => by simp [Lib.join, List.intercalate]
          rw [e] at ih ⊢
          rw [List.cons_append, ih]
theorem cutL_free (a : UInt8) : ∀ s, ∀ w ∈ cutL a s, a ∉ w
  | [], w, h => by simp [cutL] at h; subst h; simp
  | c :: s, w, h => by
    have ih := cutL_free a s
    by_cases hc : c = a
    · subst hc
      rw [cutL_hit] at h
      rcases List.mem_cons.1 h with rfl | h
      · simp
      · exact ih w h
    · cases e : cutL a s with
      | nil => exact absurd e (cutL_ne _ _)
      | cons v r =>
        rw [cutL_cons hc e] at h
        rw [e] at ih
        rcases List.mem_cons.1 h with rfl | h
        · intro hm
          rcases List.mem_cons.1 hm with h1 | h1
          · exact hc h1.symm
          · exact ih v (by simp) h1
        · exact ih w (List.mem_cons_of_mem _ h)
theorem cutL_sub (a : UInt8) {b : UInt8} : ∀ s, b ∉ s → ∀ w ∈ cutL a s, b ∉ w
  | [], _, w, h => by simp [cutL] at h; subst h; simp
  | c :: s, hb, w, h => by
    have ih := cutL_sub a s (fun hm => hb (List.mem_cons_of_mem _ hm))
    by_cases hc : c = a
    · subst hc
      rw [cutL_hit] at h
      rcases List.mem_cons.1 h with rfl | h
      · simp
      · exact ih w h
    · cases e : cutL a s with
      | nil => exact absurd e (cutL_ne _ _)
      | cons v r =>
        rw [cutL_cons hc e] at h
        rw [e] at ih
        rcases List.mem_cons.1 h with rfl | h
        · intro hm
          rcases List.mem_cons.1 hm with h1 | h1
          · exact hb (by rw [h1]; exact List.mem_cons_self ..)
          · exact ih v (by simp) h1
        · exact ih w (List.mem_cons_of_mem _ h)
theorem cutL_snoc_at {a : UInt8} : ∀ {s : Str}, cutL a (s ++ [a]) = cutL a s ++ [[]]
  | [] => by simp [cutL]
  | c :: s => by
    have ih := cutL_snoc_at (a := a) (s := s)
    rw [List.cons_append]
    by_cases h : c = a
    · subst h
      rw [cutL_hit, cutL_hit, ih]
      rfl
    · cases e : cutL a s with
      | nil => exact absurd e (cutL_ne _ _)
      | cons w r =>
        rw [e] at ih
        rw [cutL_cons h e, cutL_cons h (ih.trans (List.cons_append ..))]
        rfl
theorem cutL_snoc {a c : UInt8} (hc : c ≠ a) : ∀ {s : Str} {p : List Str} {w : Str}, cutL a s = p ++ [w] → cutL a (s ++ [c]) = p ++ [w ++ [c]]
  | [], p, w, h => by
    have h0 : cutL a [] = [[]] := rfl
    rw [h0] at h
    have h1 : p = [] ∧ w = [] := by
      cases p with
      | nil => simpa using h.symm
      | cons x p => simp at h
    rw [h1.1, h1.2, List.nil_append, cutL_cons hc h0]
    rfl
  | d :: s, p, w, h => by
    rw [List.cons_append]
    by_cases hd : d = a
    · subst hd
      rw [cutL_hit] at h ⊢
      cases p with
      | nil =>
        have h1 : cutL d s = [] := by
          have := congrArg List.tail h
          simpa using this
        exact absurd h1 (cutL_ne _ _)
      | cons x p =>
        simp only [List.cons_append, List.cons.injEq] at h
        rw [cutL_snoc hc h.2, ← h.1]
        rfl
    · cases e : cutL a s with
      | nil => exact absurd e (cutL_ne _ _)
      | cons v r =>
        rw [cutL_cons hd e] at h
        cases p with
        | nil =>
          simp only [List.nil_append, List.cons.injEq] at h
          obtain ⟨rfl, rfl⟩ := h
          have ih := cutL_snoc (a := a) hc (s := s) (p := []) (w := v) e
          rw [cutL_cons hd ih]
          rfl
        | cons x p =>
          simp only [List.cons_append, List.cons.injEq] at h
          obtain ⟨rfl, rfl⟩ := h
          have ih := cutL_snoc (a := a) hc (s := s) (p := v :: p) (w := w) e
          rw [cutL_cons hd (ih.trans (List.cons_append ..))]
          rfl
/-- The state of cut before a round. -/
def CutI (a : UInt8) (s : Str) (k fr : Nat) (out : List Str) : Prop :=
  (k ≤ s.length → fr ≤ k ∧ cutL a (s.take k) = out ++ [(s.take k).drop fr]) ∧ (s.length < k → out = cutL a s)
theorem CutI.zero (a : UInt8) (s : Str) : CutI a s 0 0 [] := ⟨fun _ => ⟨Nat.le_refl _, by simp [cutL]⟩, fun h => absurd h (Nat.not_lt_zero _)⟩
theorem CutI.last {a : UInt8} {s : Str} {fr : Nat} {out : List Str} (h : CutI a s s.length fr out) : fr ≤ s.length ∧ CutI a s (s.length + 1) (s.length + 1) (out ++ [s.drop fr]) := by
  have h1 := h.1 (Nat.le_refl _)
  rw [List.take_length] at h1
  exact ⟨h1.1, fun h => absurd h (by omega), fun _ => h1.2.symm⟩
theorem CutI.hit {a : UInt8} {s : Str} {k fr : Nat} {out : List Str} (h : CutI a s k fr out) (hk : k < s.length) (hs : s[k] = a) : CutI a s (k + 1) (k + 1) (out ++ [(s.take k).drop fr]) := by
  have h1 := h.1 (by omega)
  refine ⟨fun _ => ⟨Nat.le_refl _, ?_⟩, fun h => absurd h (by omega)⟩
  rw [List.take_succ_eq_append_getElem hk, hs, cutL_snoc_at, h1.2]
  have e : (s.take k ++ [a]).drop (k + 1) = [] := List.drop_of_length_le (by rw [List.length_append, List.length_take]; show _ + 1 ≤ _; omega)
  rw [e]
theorem CutI.miss {a : UInt8} {s : Str} {k fr : Nat} {out : List Str} (h : CutI a s k fr out) (hk : k < s.length) (hs : s[k] ≠ a) : CutI a s (k + 1) fr out := by
  have h1 := h.1 (by omega)
  refine ⟨fun _ => ⟨by omega, ?_⟩, fun h => absurd h (by omega)⟩
  rw [List.take_succ_eq_append_getElem hk, cutL_snoc hs h1.2, List.drop_append_of_le_length (by rw [List.length_take]; omega)]
/-! ## Numbers -/
def digB (c : UInt8) : Bool := decide (48 ≤ c.toNat) && decide (c.toNat ≤ 57)
def valN (s : Str) : Nat := s.foldl (fun n c => 10 * n + (c.toNat - 48)) 0
/-- A number that is not below 0, and whether it is one. -/
def numV (s : Str) : Int × Bool := if s.length < 1 ∨ 13 < s.length then (0, false) else if s.all digB then ((valN s : Int), decide (Lib.itoa (valN s : Int) = s)) else (0, false)
theorem valN_snoc (s : Str) (c : UInt8) : valN (s ++ [c]) = 10 * valN s + (c.toNat - 48) := by unfold valN; rw [List.foldl_append]; rfl
theorem valN_lt : ∀ {k : Nat} {s : Str}, s.all digB = true → s.length ≤ k → valN s < 10 ^ k := by
  intro k
  induction k with
  | zero => intro s _ h; rw [List.length_eq_zero_iff.1 (Nat.le_zero.1 h)]; decide
  | succ k ih =>
    intro s hs h
    rcases List.eq_nil_or_concat s with rfl | ⟨u, c, rfl⟩
    · show 0 < _; exact Nat.pos_of_ne_zero (by simp)
    · rw [List.concat_eq_append] at hs h ⊢
      rw [List.all_append, Bool.and_eq_true] at hs
      have h1 := ih hs.1 (by rw [List.length_append] at h; simp at h; omega)
      have h2 : digB c = true := by simpa using hs.2
      simp only [digB, Bool.and_eq_true, decide_eq_true_eq] at h2
      rw [valN_snoc, Nat.pow_succ]
      omega
theorem valN_dec : ∀ u : Nat, valN (Lib.decDigits u) = u := by
  intro u
  induction u using Nat.strongRecOn with
  | _ u ih =>
    rw [Lib.decDigits]
    split
    · have := dig_byte (m := u) (by omega)
      simp only [valN, List.foldl_cons, List.foldl_nil, this]
      omega
    · rw [valN_snoc, ih _ (by omega), dig_byte (by omega)]
      omega
theorem dec_all (u : Nat) : (Lib.decDigits u).all digB = true := List.all_eq_true.2 fun c hc => by
  have := dec_dig u c hc
  simp only [digB, Bool.and_eq_true, decide_eq_true_eq]
  exact this
theorem dec_len {u : Nat} (h : u < 10 ^ 13) : 1 ≤ (Lib.decDigits u).length ∧ (Lib.decDigits u).length ≤ 13 := by
  have key : ∀ (k u : Nat), u < 10 ^ (k + 1) → Lib.nDigits u ≤ k + 1 := by
    intro k
    induction k with
    | zero => intro u h; exact Nat.le_of_eq (Lib.nDigits_small (by omega))
    | succ k ih =>
      intro u h
      by_cases h1 : u < 10
      · rw [Lib.nDigits_small h1]; omega
      · rw [Lib.nDigits_big h1]
        have := ih (u / 10) (by rw [Nat.pow_succ] at h; omega)
        omega
  rw [Lib.decDigits_length]
  exact ⟨Lib.nDigits_pos u, key 12 u h⟩
def Big (n : Int) : Prop := 0 ≤ n ∧ n < 10 ^ 13
theorem numV_itoa {n : Int} (h : Big n) : numV (Lib.itoa n) = (n, true) := by
  obtain ⟨h1, h2⟩ := h
  have e : Lib.itoa n = Lib.decDigits n.toNat := by unfold Lib.itoa; rw [if_neg (by omega)]
  have hl := dec_len (u := n.toNat) (by omega)
  have e2 : ((valN (Lib.decDigits n.toNat) : Nat) : Int) = n := by rw [valN_dec]; omega
  unfold numV
  rw [e, if_neg (by omega), if_pos (dec_all _), e2, e]
  simp
theorem numV_ok {s : Str} {n : Int} (h : numV s = (n, true)) : s = Lib.itoa n ∧ Big n := by
  unfold numV at h
  split at h
  · cases h
  · rename_i hl
    split at h
    · rename_i hd
      have h1 := congrArg Prod.fst h
      have h2 := congrArg Prod.snd h
      dsimp only at h1 h2
      subst h1
      have h3 := valN_lt (k := 13) hd (by omega)
      exact ⟨(of_decide_eq_true h2).symm, by unfold Big; omega⟩
    · cases h
def numO (s : Str) : Option Int := if (numV s).2 then some (numV s).1 else none
theorem numO_itoa {n : Int} (h : Big n) : numO (Lib.itoa n) = some n := by unfold numO; rw [numV_itoa h]; rfl
theorem numO_ok {s : Str} {n : Int} (h : numO s = some n) : s = Lib.itoa n ∧ Big n := by
  unfold numO at h
  split at h
  · rename_i h1
    cases h
    exact numV_ok (by rw [← h1])
  · cases h
/-! ## Spans -/
def spanO (w : Str) : Option Sp := if Lib.index w [46, 46] = -1 then none else match numO (w.take (Lib.index w [46, 46]).toNat), numO (w.drop ((Lib.index w [46, 46]).toNat + 2)) with
  | some a, some b => some ⟨a, b⟩
  | _, _ => none
theorem spanO_text {s : Sp} (h1 : Big s.lo) (h2 : Big s.hi) : spanO (spS s) = some s := by
  have e : spS s = Lib.itoa s.lo ++ 46 :: 46 :: Lib.itoa s.hi := by simp [spS]
  have hi : Lib.index (spS s) [46, 46] = ((Lib.itoa s.lo).length : Int) := by rw [e]; exact index_dots _ _ (itoa_no (.inr rfl))
  unfold spanO
  rw [hi, if_neg (by omega), Int.toNat_natCast, e, List.take_left' rfl]
  rw [show (Lib.itoa s.lo ++ 46 :: 46 :: Lib.itoa s.hi).drop ((Lib.itoa s.lo).length + 2) = Lib.itoa s.hi by rw [← List.drop_drop, List.drop_left]; rfl]
  rw [numO_itoa h1, numO_itoa h2]
/-- The first place of two points. -/
def DotI (w : Str) (k : Nat) : Prop := ∀ j, j < k → (w.drop j).take 2 ≠ [46, 46]
theorem dot_at {w : Str} : ∀ {k : Nat}, DotI w k → (w.drop k).take 2 = [46, 46] → Lib.index w [46, 46] = (k : Int) := by
  induction w with
  | nil => intro k _ h; simp at h
  | cons c w ih =>
    intro k hk h
    rw [Lib.index]
    cases k with
    | zero =>
      have hp : List.isPrefixOf [46, 46] (c :: w) = true := by
        rw [List.isPrefixOf_iff_prefix]
        exact ⟨w.drop 1, by rw [List.drop_zero] at h; rw [← h]; exact (List.take_append_drop 2 (c :: w))⟩
      rw [hp]
      rfl
    | succ k =>
      have hp : List.isPrefixOf [46, 46] (c :: w) = false := by
        cases h1 : List.isPrefixOf [46, 46] (c :: w) with
        | false => rfl
        | true =>
          obtain ⟨t, ht⟩ := List.isPrefixOf_iff_prefix.1 h1
          exact absurd (by rw [← ht]; rfl) (hk 0 (Nat.succ_pos _))
      have h2 := ih (k := k) (fun j hj => by have := hk (j + 1) (by omega); simpa using this) (by simpa using h)
      rw [hp, h2]
      simp only [Bool.false_eq_true, if_false]
      rw [if_neg (by simp <;> omega)]
      omega
theorem dot_no {w : Str} : DotI w w.length → Lib.index w [46, 46] = -1 := by
  induction w with
  | nil => intro _; rfl
  | cons c w ih =>
    intro hk
    rw [Lib.index]
    have hp : List.isPrefixOf [46, 46] (c :: w) = false := by
      cases h1 : List.isPrefixOf [46, 46] (c :: w) with
      | false => rfl
      | true =>
        obtain ⟨t, ht⟩ := List.isPrefixOf_iff_prefix.1 h1
        exact absurd (by rw [← ht]; rfl) (hk 0 (by simp))
    have h2 := ih (fun j hj => by have := hk (j + 1) (by simpa using hj); simpa using this)
    rw [hp, h2]
    rfl
theorem dot_more {w : Str} {k : Nat} (h : DotI w k) (h2 : w.length ≤ k + 1) : DotI w w.length := fun j hj => by
  rcases Nat.lt_or_ge j k with h1 | h1
  · exact h j h1
  · intro h3
    have h4 := congrArg List.length h3
    rw [List.length_take, List.length_drop] at h4
    have : ([46, 46] : Str).length = 2 := rfl
    omega
theorem spanO_ok {w : Str} {s : Sp} (h : spanO w = some s) (hw : ∀ k : Nat, Lib.index w [46, 46] = (k : Int) → (w.drop k).take 2 = [46, 46]) (hn : ∀ e, Lib.index w [46, 46] = e → e = -1 ∨ ∃ k : Nat, e = (k : Int)) : w = spS s ∧ Big s.lo ∧ Big s.hi := by
  unfold spanO at h
  split at h
  · cases h
  · rename_i h0
    obtain ⟨k, hk⟩ : ∃ k : Nat, Lib.index w [46, 46] = (k : Int) := by
      rcases hn _ rfl with h1 | h1
      · exact absurd h1 h0
      · exact h1
    rw [hk, Int.toNat_natCast] at h
    split at h
    · rename_i a b ha hb
      cases h
      obtain ⟨e1, g1⟩ := numO_ok ha
      obtain ⟨e2, g2⟩ := numO_ok hb
      refine ⟨?_, g1, g2⟩
      show w = Lib.itoa a ++ [46, 46] ++ Lib.itoa b
      rw [← e1, ← e2, ← hw k hk]
      rw [List.append_assoc, ← List.drop_drop, List.take_append_drop, List.take_append_drop]
    · cases h
theorem index_cases : ∀ (w : Str), Lib.index w [46, 46] = -1 ∨ ∃ k : Nat, Lib.index w [46, 46] = (k : Int) ∧ (w.drop k).take 2 = [46, 46]
  | [] => .inl rfl
  | c :: w => by
    rw [Lib.index]
    cases h1 : List.isPrefixOf [46, 46] (c :: w) with
    | true =>
      obtain ⟨t, ht⟩ := List.isPrefixOf_iff_prefix.1 h1
      exact .inr ⟨0, rfl, by rw [← ht]; rfl⟩
    | false =>
      rcases index_cases w with h | ⟨k, h, h2⟩
      · rw [h]; exact .inl rfl
      · rw [h]
        refine .inr ⟨k + 1, ?_, by simpa using h2⟩
        simp only [Bool.false_eq_true, if_false]
        rw [if_neg (by simp <;> omega)]
        omega
theorem spanO_inv {w : Str} {s : Sp} (h : spanO w = some s) : w = spS s ∧ Big s.lo ∧ Big s.hi := by
  refine spanO_ok h (fun k hk => ?_) (fun e he => ?_)
  · rcases index_cases w with h1 | ⟨m, h1, h2⟩
    · rw [h1] at hk; omega
    · rw [h1] at hk
      have : m = k := by omega
      rw [← this]; exact h2
  · rcases index_cases w with h1 | ⟨m, h1, h2⟩
    · exact .inl (he ▸ h1)
    · exact .inr ⟨m, he ▸ h1⟩
/-! ## Lines -/
def rowsR (s : Str) : List (List Str) × Bool := ((cutL 10 s).dropLast.map (cutL 32), decide ((cutL 10 s).getLast? = some []) && decide (1 < (cutL 10 s).length))
theorem cut_lines : ∀ {js : List Str}, (∀ j ∈ js, (10 : UInt8) ∉ j) → cutL 10 ((js.map (· ++ [10])).flatten) = js ++ [[]]
  | [], _ => rfl
  | j :: js, h => by
    have e : ((j :: js).map (· ++ [(10 : UInt8)])).flatten = j ++ 10 :: (js.map (· ++ [10])).flatten := by simp
    rw [e, cutL_app (h j (by simp)) (cutL_hit.trans (by rw [cut_lines fun x hx => h x (List.mem_cons_of_mem _ hx)]))]
    simp
theorem join_lines : ∀ {js : List Str}, Lib.join (js ++ [[]]) [10] = (js.map (· ++ [10])).flatten
  | [] => rfl
  | [j] => by simp [Lib.join, List.intercalate]
  | j :: k :: js => by
    have e : Lib.join (j :: (k :: js ++ [[]])) [10] = j ++ 10 :: Lib.join (k :: js ++ [[]]) [10] := by simp [Lib.join, List.intercalate]
    rw [List.cons_append, e, join_lines (js := k :: js)]
    simp
theorem rows_text {ls : List (List Str)} (h : LinesOk ls) (hne : ls ≠ []) : rowsR ((ls.map lineS).flatten) = (ls, true) := by
  have e : (ls.map lineS).flatten = ((ls.map fun ws => Lib.join ws [32]).map (· ++ [10])).flatten := by
    rw [List.map_map]; rfl
  have hc := cut_lines (js := ls.map fun ws => Lib.join ws [32]) (fun j hj => by
    obtain ⟨ws, hw, rfl⟩ := List.mem_map.1 hj
    exact join_no ws (h ws hw).2)
  unfold rowsR
  rw [e, hc]
  have e2 : (ls.map fun ws => Lib.join ws [32]).map (cutL 32) = ls := by
    rw [List.map_map]
    conv => rhs; rw [← List.map_id ls]
    exact List.map_congr_left fun ws hw => cutL_join (h ws hw).1 fun w hw2 => ((h ws hw).2 w hw2).1
  rw [List.dropLast_concat, e2]
  have hl : 0 < ls.length := List.length_pos_iff.2 hne
  have : 1 < (ls.map (fun ws => Lib.join ws [32]) ++ [[]]).length := by simp; omega
  simp [hl]
theorem rows_ok {s : Str} {ls : List (List Str)} (h : rowsR s = (ls, true)) : s = (ls.map lineS).flatten ∧ LinesOk ls ∧ ls ≠ [] := by
  unfold rowsR at h
  have h1 := congrArg Prod.fst h
  have h2 := congrArg Prod.snd h
  dsimp only at h1 h2
  rw [Bool.and_eq_true, decide_eq_true_eq, decide_eq_true_eq] at h2
  obtain ⟨h2, h3⟩ := h2
  have hne := cutL_ne 10 s
  have e : cutL 10 s = (cutL 10 s).dropLast ++ [[]] := by
    have h4 := List.dropLast_concat_getLast hne
    rw [List.getLast?_eq_some_getLast hne] at h2
    rw [Option.some.inj h2] at h4
    exact h4.symm
  have hs := cutL_inv 10 s
  rw [e, join_lines] at hs
  have hf : ∀ j ∈ (cutL 10 s).dropLast, (10 : UInt8) ∉ j := fun j hj => cutL_free 10 s j (List.dropLast_subset _ hj)
  subst h1
  refine ⟨?_, fun ws hw => ?_, fun h0 => ?_⟩
  · rw [List.map_map]
    refine hs.symm.trans ?_
    congr 1
    exact List.map_congr_left fun j _ => by
      show j ++ [10] = Lib.join (cutL 32 j) [32] ++ nl
      rw [cutL_inv]; rfl
  · obtain ⟨j, hj, rfl⟩ := List.mem_map.1 hw
    exact ⟨cutL_ne _ _, fun w hw2 => ⟨cutL_free 32 j w hw2, cutL_sub 32 j (hf j hj) w hw2⟩⟩
  · have h5 := congrArg List.length h0
    rw [List.length_map, List.length_dropLast, List.length_nil] at h5
    omega
theorem rows_ne (s : Str) : ∀ ws ∈ (rowsR s).1, ws ≠ [] := fun ws hw => by
  unfold rowsR at hw
  obtain ⟨j, _, rfl⟩ := List.mem_map.1 hw
  exact cutL_ne _ _
/-- What a reader of lines has to do. -/
structure LinesSay {α : Type} (ok : α → Bool) (L : α → List (List Str)) (ls : List (List Str)) (x : α) (is : Bool) : Prop where
  yes : is = true → ok x = true ∧ L x = ls
  no : is = false → ∀ y, ok y = true → L y ≠ ls
theorem ref_yes {α : Type} {step : α → List Str → Option α} {z x : α} {ok : α → Bool} {text : α → Str} {L : α → List (List Str)} {s : Str} (hp : ∀ x, ok x = true → parseX step z (text x) = some x) (hT : ∀ x, text x = ((L x).map lineS).flatten) (hl : s.length ≤ 4096) (hr : (rowsR s).2 = true) (h : LinesSay ok L (rowsR s).1 x true) : readX step z ok text s = .ok x := by
  obtain ⟨h1, h2⟩ := h.yes rfl
  have h3 := rows_ok (s := s) (ls := (rowsR s).1) (by rw [← hr])
  exact readX_ok hp h1 (by rw [hT, h2, ← h3.1]) (by omega)
theorem ref_no {α : Type} {step : α → List Str → Option α} {z x : α} {ok : α → Bool} {text : α → Str} {L : α → List (List Str)} {s : Str} (hT : ∀ x, text x = ((L x).map lineS).flatten) (hok : ∀ x, LinesOk (L x)) (hne : ∀ x, L x ≠ []) (hl : s.length ≤ 4096) (h : (rowsR s).2 = false ∨ LinesSay ok L (rowsR s).1 x false) : readX step z ok text s = .error 8 := by
  refine reads_no hl (fun y hy he => ?_)
  have h1 := rows_text (hok y) (hne y)
  rw [← hT, he] at h1
  rcases h with h | h
  · rw [h1] at h; cases h
  · exact h.no rfl y hy (by rw [h1])
end Go.Bk
namespace Go.Proofs.YtleamcmljcdapaaGreatDoor
open Go Go.Eng
theorem ent_8 : Enters Tryz.prog 8 := enters_of Tryz.func8 (by kernel_rfl) rfl
end Go.Proofs.YtleamcmljcdapaaGreatDoor
namespace Go.Proofs.YtleamcmljcdapaaGreatDoor
open Go Go.Eng
theorem ent_150 : Enters Tryz.prog 150 := enters_of Tryz.func150 (by kernel_rfl) rfl
end Go.Proofs.YtleamcmljcdapaaGreatDoor
namespace Go.Bk
open Go Go.Eng Go.RowKit
theorem six_get {s : Str} {k : Nat} (h : k < s.length) : s[(k : Int).toNat]? = some (s.getD k 0) := by
  rw [Int.toNat_natCast, List.getD_eq_getElem?_getD, List.getElem?_eq_getElem h]
  rfl
theorem getD_get {s : Str} {k : Nat} (h : k < s.length) : s[k] = s.getD k 0 := by
  rw [List.getD_eq_getElem?_getD, List.getElem?_eq_getElem h]
  rfl
theorem CutI.cut {a : UInt8} {s : Str} {k fr : Nat} {out : List Str} (h : CutI a s k fr out) (hk : k ≤ s.length) (hs : (k : Int) = (s.length : Int) ∨ ((s.getD k 0).toNat : Int) = (a.toNat : Int)) : CutI a s (k + 1) (k + 1) (out ++ [(s.drop fr).take (k - fr)]) := by
  rw [← List.drop_take]
  by_cases h1 : k = s.length
  · subst h1
    have h2 := h.last
    rw [List.take_length]
    exact h2.2
  · have h2 : k < s.length := by omega
    refine h.hit h2 ?_
    rw [getD_get h2]
    exact UInt8.toNat_inj.1 (by omega)
theorem CutI.skip {a : UInt8} {s : Str} {k fr : Nat} {out : List Str} (h : CutI a s k fr out) (hk : k ≤ s.length) (h1 : ¬ (k : Int) = (s.length : Int)) (h2 : ¬ ((s.getD k 0).toNat : Int) = (a.toNat : Int)) : CutI a s (k + 1) fr out := by
  have h3 : k < s.length := by omega
  refine h.miss h3 ?_
  rw [getD_get h3]
  intro e
  exact h2 (by rw [e])
theorem valN_s {s : Str} {k : Nat} (hk : k < s.length) {y : UInt8} (hy : s[k] = y) (h48 : 48 ≤ y.toNat) : 10 * (valN (s.take k) : Int) + ((y.toNat : Int) - 48) = (valN (s.take (k + 1)) : Int) := by
  rw [List.take_succ_eq_append_getElem hk, hy, valN_snoc]
  push_cast
  omega
theorem dig_yes {y : UInt8} (h1 : ¬ (y.toNat : Int) < 48) (h2 : ¬ (57 : Int) < y.toNat) : digB y = true := by
  simp only [digB, Bool.and_eq_true, decide_eq_true_eq]
  omega
theorem dig_no {y : UInt8} (h : (y.toNat : Int) < 48 ∨ (57 : Int) < y.toNat) : digB y = false := by
  simp only [digB, Bool.and_eq_false_iff, decide_eq_false_iff_not]
  omega
theorem numV_bad {s : Str} (h : s.length < 1 ∨ 13 < s.length) : numV s = (0, false) := if_pos h
theorem numV_no {s : Str} (h : ¬ (s.length < 1 ∨ 13 < s.length)) {k : Nat} (hk : k < s.length) {y : UInt8} (hy : s[k] = y) (hd : digB y = false) : numV s = (0, false) := by
  unfold numV
  rw [if_neg h, if_neg]
  intro h2
  have h3 := List.all_eq_true.1 h2 y (hy ▸ List.getElem_mem hk)
  rw [hd] at h3
  cases h3
theorem numV_end {s : Str} (h : ¬ (s.length < 1 ∨ 13 < s.length)) (hd : s.all digB = true) : numV s = ((valN s : Int), decide (Lib.itoa (valN s : Int) = s)) := by
  unfold numV
  rw [if_neg h, if_pos hd]
theorem numO_no {s : Str} (h : (numV s).2 = false) : numO s = none := by unfold numO; rw [h]; rfl
theorem numO_yes {s : Str} (h : (numV s).2 = true) : numO s = some (numV s).1 := by unfold numO; rw [h]; rfl
/-- What the numbers, or the spans, of a line come to. -/
def lineV {α : Type} (f : Str → Option α) (ls : List Str) (w : Str) : List α × Bool := match allP f (ls.drop 1) with
  | some l => (l, decide (ls.getD 0 [] = w))
  | none => ([], false)
theorem lineV_no {α : Type} {f : Str → Option α} {ls : List Str} {w : Str} {k : Nat} (hk : k + 1 < ls.length) (hy : f (ls.getD (k + 1) []) = none) : lineV f ls w = ([], false) := by
  unfold lineV
  rw [allP_no (k := k) (by rw [List.length_drop]; omega) (by rw [drop_getD, Nat.add_comm]; exact hy)]
theorem lineV_s {α : Type} {f : Str → Option α} {ls : List Str} {k : Nat} (hk : k + 1 < ls.length) {r : List α} (h : allP f ((ls.drop 1).take k) = some r) {y : α} (hy : f (ls.getD (k + 1) []) = some y) : allP f ((ls.drop 1).take (k + 1)) = some (r ++ [y]) :=
  allP_s (by rw [List.length_drop]; omega) h (by rw [drop_getD, Nat.add_comm]; exact hy)
theorem lineV_end {α : Type} {f : Str → Option α} {ls : List Str} {w : Str} {r : List α} (h : allP f ((ls.drop 1).take (ls.length - 1)) = some r) : lineV f ls w = (r, decide (ls.getD 0 [] = w)) := by
  unfold lineV
  rw [List.take_of_length_le (by rw [List.length_drop]; omega)] at h
  rw [h]
theorem getD_of {ls : List Str} {k : Nat} (h : k < ls.length) {y : Str} (hy : ls[k] = y) : ls.getD k [] = y := by
  rw [List.getD_eq_getElem?_getD, List.getElem?_eq_getElem h, ← hy]
  rfl
theorem spanO_at {y : Str} {j : Nat} (hd : DotI y j) (h2 : (y.drop j).take 2 = [46, 46]) : spanO y = match numO (y.take j), numO (y.drop (j + 2)) with
    | some a, some b => some ⟨a, b⟩
    | _, _ => none := by
  unfold spanO
  rw [dot_at hd h2, if_neg (by omega), Int.toNat_natCast]
  try rfl
theorem spanO_none {y : Str} {j : Nat} (hd : DotI y j) (h : y.length ≤ j + 1) : spanO y = none := by
  unfold spanO
  rw [dot_no (dot_more hd h), if_pos rfl]
theorem dot_s {y : Str} {j : Nat} (hd : DotI y j) (h : ¬ (y.drop j).take (j + 2 - j) = [46, 46]) : DotI y (j + 1) := fun i hi => by
  rcases Nat.lt_succ_iff_lt_or_eq.1 hi with h1 | rfl
  · exact hd i h1
  · rw [show i + 2 - i = 2 by omega] at h; exact h
end Go.Bk
namespace Go.Proofs.YtleamcmljcdapaaGreatDoor
open Go Go.Eng Go.Bk Go.RowKit

abbrev stB (z : OL Str) : Blks := ownB 9 z.1 (z.2.map strC).flatten
theorem cut_calls14 (s : Str) (a : UInt8) (hs : s.length ≤ 100000) (W : World) : Calls Tryz.prog 105 #[.string (bs s), byteV a] W (Grow W [] (fun z : OL Str => OL.v z) (fun z => stB z ++ []) (fun z => OL.ok z strC 1 ∧ z.2 = cutL a s)) := by
  refine calls_start Tryz.func105 rfl rfl ?_
  refine st ?_
  refine RunC.loopX (X := OL Str × Nat) (n0 := []) (s.length + 1) (fun k x q => (7, .int .i64 (k : Int)) :: (6, .int .i64 (x.2 : Int)) :: (5, ownV x.1.1 x.1.2.length) :: q) (fun _ _ => _) (fun k x => []) (fun k x => ownB 9 x.1.1 (x.1.2.map strC).flatten ++ []) (fun k x => CutI a s k x.2 x.1.2 ∧ OL.ok x.1 strC 1 ∧ x.1.2.length ≤ k) ((none, []), 0) ⟨CutI.zero a s, ol_nil, Nat.le_refl _⟩ rfl (Sub.consE (t := 7) rfl rfl (Sub.consE (t := 6) rfl rfl (Sub.consE (t := 5) rfl rfl (Sub.cons (t := 0) rfl (Sub.cons (t := 1) rfl (Sub.nil _)))))) (Pick.same rfl) ?_
  intro k x kN kI
  obtain ⟨⟨zo, zl⟩, fr⟩ := x
  obtain ⟨kI1, hzo, kI3⟩ := kI
  dsimp only at kI1 kI3 ⊢
  refine st ?_
  refine lv (Val.lenS rfl und_9) ?_
  refine cn rfl ?_ ?_
  ·intro c0'
   have hfr := kI1.1 (by omega)
   refine st ?_
   refine lv (Val.lenS rfl und_9) ?_
   refine RunL.orPart (dj := 18) (dp := 24) 6 rfl (fun g18 => by
     have g18' := g18
     try simp only [nH] at g18'
     refine st ?_
     refine RunL.val (Val.strIndex rfl rfl und_9 (by omega) (six_get (by omega))) rfl rfl rfl ?_
     refine sv ?_
     exact RunL.segEnd (Sub.cons rfl (Sub.skip rfl (Sub.skip rfl (Sub.skip rfl (Sub.skip rfl (Sub.skip rfl (Sub.skip rfl (Sub.same rfl (by rw [g18]) (Sub.refl _))))))))) (List.Sublist.refl _)
   ) (fun g18 => by
     have g18' := g18
     try simp only [nH] at g18'
     iterate 5 refine RunL.no rfl rfl rfl ?_
     refine sv ?_
     exact RunL.segEnd (Sub.cons rfl (Sub.skip rfl (Sub.skip rfl (Sub.skip rfl (Sub.skip rfl (Sub.skip rfl (Sub.skip rfl (Sub.same rfl (by rw [g18]) (Sub.refl _))))))))) (List.Sublist.refl _)
   ) ?_
   refine st ?_
   refine cn rfl ?_ ?_
   ·intro c1'
    refine st ?_
    refine lv (Val.strSlice (a := fr) (b := k) rfl rfl rfl und_9 hfr.1 (by omega)) ?_
    refine RunL.new (New.buildSlice (parts := [(0, .tmp 29)]) rfl sl_166 zero_9 rfl rfl rfl rfl) rfl rfl rfl (fun b30 => ?_)
    refine RunL.append (A := [(b30, _)]) (B := _) (x := zo) (ys := strC ((s.drop fr).take (k - fr))) ap_166 rfl rfl rfl hzo rfl (fun h => by cases h) (fun w hm => src_blk (hm.at (.head _))) (one_of rfl) (by simp only [maxLen]; show zl.length + 1 ≤ _; omega) (by show (zl.length + 1) * 16 ≤ 140737488355328; omega) rfl (fun z31 hz31 => ?_)
    refine st ?_
    refine lv (Val.add rfl rfl (IntWalk.i64_in _ ⟨by omega, by omega⟩)) ?_
    refine lv (Val.add rfl rfl (IntWalk.i64_in _ ⟨by omega, by omega⟩)) ?_
    exact RunE.roundX ((z31, zl ++ [(s.drop fr).take (k - fr)]), k + 1) (by omega) ⟨kI1.cut (by omega) c1', ol_snoc (z := zo) (f := strC) hz31, by show (zl ++ _).length ≤ _; rw [List.length_append]; show zl.length + 1 ≤ _; omega⟩ rfl (Sub.consE (t := 7) rfl rfl (Sub.consE (t := 6) rfl rfl (Sub.consE (t := 5) rfl (by simp) (Sub.cons (t := 0) rfl (Sub.cons (t := 1) rfl (Sub.nil _)))))) (Pick.skip (Pick.same (by simp [strC])))
   intro c1'
   refine st ?_
   refine lv (Val.add rfl rfl (IntWalk.i64_in _ ⟨by omega, by omega⟩)) ?_
   exact RunE.roundX ((zo, zl), fr) (by omega) ⟨kI1.skip (by omega) c1'.1 c1'.2, hzo, by dsimp only; omega⟩ rfl (Sub.consE (t := 7) rfl rfl (Sub.consE (t := 6) rfl rfl (Sub.consE (t := 5) rfl (by simp) (Sub.cons (t := 0) rfl (Sub.cons (t := 1) rfl (Sub.nil _)))))) (Pick.same (by simp [strC]))
  intro c0'
  obtain rfl : k = s.length + 1 := by omega
  refine RunC.exit ?_
  refine RunE.pass_exit ?_
  refine RunE.pass_exit ?_
  refine RunE.block_here ?_
  refine st ?_
  refine RunC.ret ?_
  exact RunE.retG (zo, zl) ⟨hzo, kI1.2 (Nat.lt_succ_self _)⟩ (.r1 rfl (.tmp rfl)) rfl (Pick.refl _)
theorem number_calls14 (s : Str) (W : World) (hL : Lw Tryz.prog W) : Calls Tryz.prog 150 #[.string (bs s)] W (Pure (.tuple #[.int .i64 (numV s).1, .bool (numV s).2]) W) := by
  refine calls_start Tryz.func150 rfl rfl ?_
  refine st ?_
  refine lv (Val.lenS rfl und_9) ?_
  refine RunL.orPart (dj := 9) (dp := 13) 4 rfl (fun g9 => by
    have g9' := g9
    try simp only [nH] at g9'
    refine st ?_
    refine RunL.val (Val.lenS rfl und_9) rfl rfl rfl ?_
    refine sv ?_
    exact RunL.segEnd (Sub.cons rfl (Sub.skip rfl (Sub.skip rfl (Sub.skip rfl (Sub.skip rfl (Sub.same rfl (by rw [g9]) (Sub.refl _))))))) (List.Sublist.refl _)
  ) (fun g9 => by
    have g9' := g9
    try simp only [nH] at g9'
    iterate 3 refine RunL.no rfl rfl rfl ?_
    refine sv ?_
    exact RunL.segEnd (Sub.cons rfl (Sub.skip rfl (Sub.skip rfl (Sub.skip rfl (Sub.skip rfl (Sub.same rfl (by rw [g9]) (Sub.refl _))))))) (List.Sublist.refl _)
  ) ?_
  refine st ?_
  refine cn rfl ?_ ?_
  ·intro c0'
   refine st ?_
   refine RunC.ret ?_
   refine RunE.pass_ret ?_
   exact RunE.retP (.r2 rfl (.tmp rfl) (.tmp rfl)) (by rw [numV_bad (by omega)])
  intro c0'
  have hlen : ¬ (s.length < 1 ∨ 13 < s.length) := (by omega)
  refine st ?_
  refine RunC.loopK (s.length) (fun k q => (5, .int .i64 (k : Int)) :: (4, .int .i64 (valN (s.take k) : Int)) :: q) (fun _ => _) (fun _ => []) (fun k => (s.take k).all digB = true) (by simp) rfl (Sub.consE (t := 5) rfl rfl (Sub.consE (t := 4) rfl rfl (Sub.cons (t := 0) rfl (Sub.nil _)))) .nil ?_
  intro k kN kI
  refine st ?_
  refine lv (Val.lenS rfl und_9) ?_
  refine cn rfl ?_ ?_
  ·intro c1'
   have hk : k < s.length := by omega
   obtain ⟨y, hy⟩ : ∃ y, s[k] = y := ⟨_, rfl⟩
   have hy2 : s[(k : Int).toNat]? = some y := (by rw [Int.toNat_natCast, List.getElem?_eq_getElem hk, hy])
   have hy8 := y.toNat_lt
   have hv := valN_lt (k := 13) (s := s.take k) kI (by rw [List.length_take]; omega)
   refine st ?_
   refine lv (Val.strIndex rfl rfl und_9 (by omega) hy2) ?_
   refine RunL.orPart (dj := 24) (dp := 29) 5 rfl (fun g24 => by
     have g24' := g24
     try simp only [nH] at g24'
     refine st ?_
     refine RunL.val (Val.strIndex rfl rfl und_9 (by omega) hy2) rfl rfl rfl ?_
     refine sv ?_
     exact RunL.segEnd (Sub.cons rfl (Sub.skip rfl (Sub.skip rfl (Sub.skip rfl (Sub.skip rfl (Sub.skip rfl (Sub.same rfl (by rw [g24]) (Sub.refl _)))))))) (List.Sublist.refl _)
   ) (fun g24 => by
     have g24' := g24
     try simp only [nH] at g24'
     iterate 4 refine RunL.no rfl rfl rfl ?_
     refine sv ?_
     exact RunL.segEnd (Sub.cons rfl (Sub.skip rfl (Sub.skip rfl (Sub.skip rfl (Sub.skip rfl (Sub.skip rfl (Sub.same rfl (by rw [g24]) (Sub.refl _)))))))) (List.Sublist.refl _)
   ) ?_
   refine st ?_
   refine cn rfl ?_ ?_
   ·intro c2'
    refine st ?_
    refine RunC.ret ?_
    refine RunE.pass_ret ?_
    refine RunE.block_ret ?_
    refine RunE.pass_ret ?_
    refine RunE.pass_ret ?_
    refine RunE.block_ret ?_
    refine RunE.pass_ret ?_
    exact RunE.retP (.r2 rfl (.tmp rfl) (.tmp rfl)) (by rw [numV_no hlen hk hy (dig_no (by omega))])
   intro c2'
   have hdy := dig_yes (y := y) (by omega) (by omega)
   refine st ?_
   refine lv (Val.mul rfl rfl (IntWalk.i64_in _ ⟨by omega, by omega⟩)) ?_
   refine lv (Val.strIndex rfl rfl und_9 (by omega) hy2) ?_
   refine lv (Val.sub' rfl rfl (by show ((y.toNat : Int) - 48) % 256 = _; omega)) ?_
   refine lv (Val.convInt rfl und_5 und_3 (IntWalk.i64_in _ ⟨by omega, by omega⟩)) ?_
   refine lv (Val.add rfl rfl (IntWalk.i64_in _ ⟨by omega, by omega⟩)) ?_
   refine lv (Val.add rfl rfl (IntWalk.i64_in _ ⟨by omega, by omega⟩)) ?_
   exact RunE.round (by omega) (take_all hk hy kI hdy) rfl (Sub.consE (t := 5) rfl rfl (Sub.consE (t := 4) rfl (by rw [valN_s hk hy (by omega)]) (Sub.cons (t := 0) rfl (Sub.nil _)))) .nil
  intro c1'
  obtain rfl : k = s.length := by omega
  rw [List.take_length] at kI
  rw [List.take_length]
  have hv := valN_lt (k := 13) kI (by omega)
  refine RunC.exit ?_
  refine RunE.pass_exit ?_
  refine RunE.pass_exit ?_
  refine RunE.block_here ?_
  refine st ?_
  refine RunL.callP (isCall_func rfl ent_100) rfl rfl rfl (fun w hm => rnum_calls (valN s : Int) ⟨by omega, by omega⟩ w (hL.mono hm)) ?_
  refine st ?_
  refine lv (Val.eqlStr rfl rfl) ?_
  refine RunC.ret ?_
  exact RunE.retP (.r2 rfl (.tmp rfl) (.tmp rfl)) (by rw [numV_end hlen kI])
theorem readNums_calls14 (r : SA Str) (W : World) (hr : r.ok strC 1 W) (h0 : 0 < r.l.length) (hl : r.l.length ≤ 100000) (wd : Str) (hL : Lw Tryz.prog W) : Calls Tryz.prog 106 #[r.v, .string (bs wd)] W (Grow W [] (fun z : OL Int × Bool => .tuple #[OL.v z.1, .bool z.2]) (fun z => ownB 3 z.1.1 (z.1.2.map intC).flatten ++ []) (fun z => OL.ok z.1 intC 1 ∧ (z.1.2, z.2) = lineV numO r.l wd)) := by
  refine calls_start Tryz.func106 rfl rfl ?_
  refine st ?_
  refine RunC.loopX (X := OL Int) (n0 := []) (r.l.length - 1) (fun k x q => (7, .int .i64 ((k + 1 : Nat) : Int)) :: (6, ownV x.1 x.2.length) :: q) (fun _ _ => _) (fun k x => []) (fun k x => ownB 3 x.1 (x.2.map intC).flatten ++ []) (fun k x => OL.ok x intC 1 ∧ allP numO ((r.l.drop 1).take k) = some x.2 ∧ x.2.length = k) (none, []) ⟨ol_nil, by simp [allP], rfl⟩ rfl (Sub.consE (t := 7) rfl rfl (Sub.consE (t := 6) rfl rfl (Sub.cons (t := 0) rfl (Sub.cons (t := 1) rfl (Sub.nil _))))) (Pick.same rfl) ?_
  intro k x kN kI
  obtain ⟨zo, zl⟩ := x
  obtain ⟨hzo, kI2, kI3⟩ := kI
  dsimp only at kI2 kI3 ⊢
  refine st ?_
  refine lv (Val.len_sl rfl sl_166) ?_
  refine cn rfl ?_ ?_
  ·intro c0'
   have hk : k + 1 < r.l.length := by omega
   obtain ⟨y, hy⟩ : ∃ y, r.l[k + 1] = y := ⟨_, rfl⟩
   refine st ?_
   refine lv (Val.indexAddr_slp rfl rfl sl_166 (by omega) (by omega) (Sl.ptrM hr hk)) ?_
   refine lv (Val.load_gen rfl (fun w hm => Sl.loadM1 hr (by decide) hm (by simp) ty_9 hk (v := .string (bs y)) (by simp [strC, hy]))) ?_
   refine RunL.callP (isCall_func rfl ent_150) rfl rfl rfl (fun w hm => number_calls14 y w (hL.mono hm)) ?_
   refine st ?_
   refine cn rfl ?_ ?_
   ·intro c1'
    refine st ?_
    refine RunC.ret ?_
    refine RunE.pass_ret ?_
    refine RunE.block_ret ?_
    refine RunE.pass_ret ?_
    refine RunE.pass_ret ?_
    refine RunE.block_ret ?_
    refine RunE.pass_ret ?_
    exact RunE.retG ((none, []), false) ⟨ol_nil, (lineV_no hk (by rw [getD_of hk hy]; exact numO_no c1')).symm⟩ (.r2 rfl (.tmp rfl) (.tmp rfl)) rfl (show Pick [] _ from .nil)
   intro c1'
   refine st ?_
   refine RunL.new (New.buildSlice (parts := [(0, .tmp 27)]) rfl sl_27 zero_3 rfl rfl rfl rfl) rfl rfl rfl (fun b28 => ?_)
   refine RunL.append (A := [(b28, _)]) (B := _) (x := zo) (ys := intC (numV y).1) ap_27 rfl rfl rfl hzo rfl (fun h => by cases h) (fun w hm => src_blk (hm.at (.head _))) (one_of rfl) (by simp only [maxLen]; show zl.length + 1 ≤ _; omega) (by show (zl.length + 1) * 8 ≤ 140737488355328; omega) rfl (fun z29 hz29 => ?_)
   refine st ?_
   refine lv (Val.add rfl rfl (IntWalk.i64_in _ ⟨by omega, by omega⟩)) ?_
   exact RunE.roundX (z29, zl ++ [(numV y).1]) (by omega) ⟨ol_snoc (z := zo) (f := intC) hz29, lineV_s hk kI2 (by rw [getD_of hk hy]; exact numO_yes c1'), by show (zl ++ _).length = _; rw [List.length_append, kI3]; rfl⟩ rfl (Sub.consE (t := 7) rfl rfl (Sub.consE (t := 6) rfl (by simp) (Sub.cons (t := 0) rfl (Sub.cons (t := 1) rfl (Sub.nil _))))) (Pick.skip (Pick.same (by simp [intC])))
  intro c0'
  obtain rfl : k = r.l.length - 1 := by omega
  obtain ⟨y0, hy0⟩ : ∃ y, r.l[0] = y := ⟨_, rfl⟩
  refine RunC.exit ?_
  refine RunE.pass_exit ?_
  refine RunE.pass_exit ?_
  refine RunE.block_here ?_
  refine st ?_
  refine RunC.draw 7 fol_ .nil ?_
  refine va 0 rfl (Val.pure rfl) rfl rfl rfl .nil rfl ?_
  refine va 1 rfl (Val.pure rfl) rfl rfl rfl .nil rfl ?_
  refine va 2 rfl (Val.indexAddr_slp rfl rfl sl_166 (by omega) (by omega) (Sl.ptrM hr h0)) rfl rfl rfl .nil rfl ?_
  refine va 3 rfl (Val.load_gen rfl (fun w hm => Sl.loadM1 hr (by decide) hm (by simp) ty_9 h0 (v := .string (bs y0)) (by simp [strC, hy0]))) rfl rfl rfl .nil rfl ?_
  refine va 4 rfl (Val.pure rfl) rfl rfl rfl .nil rfl ?_
  refine va 5 rfl (Val.eqlStr rfl rfl) rfl rfl rfl .nil rfl ?_
  refine va 6 rfl (Val.pure rfl) rfl rfl rfl .nil rfl ?_
  refine RunA.toB (by kernel_rfl) ?_
  refine RunB.one (i := 7) (by kernel_rfl) ?_
  refine RunI.val rfl (Val.pure rfl) rfl rfl rfl (RunK.toB ?_)
  refine RunB.done (by kernel_rfl) ?_
  refine st ?_
  refine RunC.ret ?_
  exact RunE.retG ((zo, zl), decide (y0 = wd)) ⟨hzo, by rw [lineV_end kI2, getD_of h0 hy0]⟩ (.r2 rfl (.tmp rfl) (.tmp rfl)) rfl (Pick.refl _)
theorem readSpans_calls14 (r : SA Str) (W : World) (hr : r.ok strC 1 W) (h0 : 0 < r.l.length) (hl : r.l.length ≤ 100000) (hls : ∀ y ∈ r.l, y.length ≤ 100000) (wd : Str) (hL : Lw Tryz.prog W) : Calls Tryz.prog 107 #[r.v, .string (bs wd)] W (Grow W [] (fun z : OL Sp × Bool => .tuple #[OL.v z.1, .bool z.2]) (fun z => spB z.1 ++ []) (fun z => OL.ok z.1 Sp.cells 2 ∧ (z.1.2, z.2) = lineV spanO r.l wd)) := by
  refine calls_start Tryz.func107 rfl rfl ?_
  refine st ?_
  refine RunC.loopX (X := OL Sp) (n0 := []) (r.l.length - 1) (fun k x q => (7, .int .i64 ((k + 1 : Nat) : Int)) :: (6, ownV x.1 x.2.length) :: q) (fun _ _ => _) (fun k x => []) (fun k x => ownB 38 x.1 (x.2.map Sp.cells).flatten ++ []) (fun k x => OL.ok x Sp.cells 2 ∧ allP spanO ((r.l.drop 1).take k) = some x.2 ∧ x.2.length = k) (none, []) ⟨ol_nil, by simp [allP], rfl⟩ rfl (Sub.consE (t := 7) rfl rfl (Sub.consE (t := 6) rfl rfl (Sub.cons (t := 0) rfl (Sub.cons (t := 1) rfl (Sub.nil _))))) (Pick.same rfl) ?_
  intro k x kN kI
  obtain ⟨zo, zl⟩ := x
  obtain ⟨hzo, kI2, kI3⟩ := kI
  dsimp only at kI2 kI3 ⊢
  refine st ?_
  refine lv (Val.len_sl rfl sl_166) ?_
  refine cn rfl ?_ ?_
  ·intro c0'
   have hk : k + 1 < r.l.length := by omega
   obtain ⟨y, hy⟩ : ∃ y, r.l[k + 1] = y := ⟨_, rfl⟩
   have hyl : y.length ≤ 100000 := hls y (hy ▸ List.getElem_mem hk)
   refine st ?_
   refine RunC.loopK (y.length) (fun j q => (8, .int .i64 (j : Int)) :: q) (fun _ => _) (fun _ => []) (fun j => DotI y j) (fun i hi => absurd hi (Nat.not_lt_zero _)) rfl (Sub.consE (t := 8) rfl rfl (Sub.cons (t := 0) rfl (Sub.cons (t := 1) rfl (Sub.cons (t := 7) rfl (Sub.cons (t := 6) rfl (Sub.nil _)))))) (Pick.refl _) ?_
   intro j jN jI
   refine st ?_
   refine lv (Val.add rfl rfl (IntWalk.i64_in _ ⟨by omega, by omega⟩)) ?_
   refine lv (Val.indexAddr_slp rfl rfl sl_166 (by omega) (by omega) (Sl.ptrM hr hk)) ?_
   refine lv (Val.load_gen rfl (fun w hm => Sl.loadM1 hr (by decide) hm (by simp) ty_9 hk (v := .string (bs y)) (by simp [strC, hy]))) ?_
   refine lv (Val.lenS rfl und_9) ?_
   refine RunL.andPart (dj := 27) (dp := 37) 10 rfl (fun g27 => by
     have g27' := g27
     try simp only [nH] at g27'
     refine st ?_
     refine lv (Val.indexAddr_slp rfl rfl sl_166 (by omega) (by omega) (Sl.ptrM hr hk)) ?_
     refine lv (Val.load_gen rfl (fun w hm => Sl.loadM1 hr (by decide) hm (by simp) ty_9 hk (v := .string (bs y)) (by simp [strC, hy]))) ?_
     refine lv (Val.addN (a := j) (b := 2) (j + 2) rfl rfl rfl (i64_inN (by omega))) ?_
     refine lv (Val.strSlice (a := j) (b := j + 2) rfl rfl rfl und_9 (by omega) (by omega)) ?_
     refine RunL.val (Val.neqStr rfl rfl) rfl rfl rfl ?_
     refine sv ?_
     exact RunL.segEnd (Sub.cons rfl (Sub.skip rfl (Sub.skip rfl (Sub.skip rfl (Sub.skip rfl (Sub.skip rfl (Sub.skip rfl (Sub.skip rfl (Sub.skip rfl (Sub.skip rfl (Sub.skip rfl (Sub.same rfl (by rw [g27]) (Sub.refl _))))))))))))) (List.Sublist.refl _)
   ) (fun g27 => by
     have g27' := g27
     try simp only [nH] at g27'
     iterate 9 refine RunL.no rfl rfl rfl ?_
     refine sv ?_
     exact RunL.segEnd (Sub.cons rfl (Sub.skip rfl (Sub.skip rfl (Sub.skip rfl (Sub.skip rfl (Sub.skip rfl (Sub.skip rfl (Sub.skip rfl (Sub.skip rfl (Sub.skip rfl (Sub.skip rfl (Sub.same rfl (by rw [g27]) (Sub.refl _))))))))))))) (List.Sublist.refl _)
   ) ?_
   refine st ?_
   refine cn rfl ?_ ?_
   ·intro c1'
    refine st ?_
    refine lv (Val.add rfl rfl (IntWalk.i64_in _ ⟨by omega, by omega⟩)) ?_
    exact RunE.round (by omega) (dot_s jI c1'.2) rfl (Sub.consE (t := 8) rfl rfl (Sub.cons (t := 0) rfl (Sub.cons (t := 1) rfl (Sub.cons (t := 7) rfl (Sub.cons (t := 6) rfl (Sub.nil _)))))) (Pick.refl _)
   intro c1'
   refine RunC.exit ?_
   refine RunE.pass_exit ?_
   refine RunE.pass_exit ?_
   refine RunE.block_here ?_
   refine st ?_
   refine lv (Val.add rfl rfl (IntWalk.i64_in _ ⟨by omega, by omega⟩)) ?_
   refine lv (Val.indexAddr_slp rfl rfl sl_166 (by omega) (by omega) (Sl.ptrM hr hk)) ?_
   refine lv (Val.load_gen rfl (fun w hm => Sl.loadM1 hr (by decide) hm (by simp) ty_9 hk (v := .string (bs y)) (by simp [strC, hy]))) ?_
   refine lv (Val.lenS rfl und_9) ?_
   refine cn rfl ?_ ?_
   ·intro c2'
    refine st ?_
    refine RunC.ret ?_
    refine RunE.pass_ret ?_
    refine RunE.block_ret ?_
    refine RunE.pass_ret ?_
    refine RunE.pass_ret ?_
    refine RunE.block_ret ?_
    refine RunE.pass_ret ?_
    exact RunE.retG ((none, []), false) ⟨ol_nil, (lineV_no hk (by rw [getD_of hk hy]; exact spanO_none jI (by omega))).symm⟩ (.r2 rfl (.tmp rfl) (.tmp rfl)) rfl (show Pick [] _ from .nil)
   intro c2'
   have hjl : j + 1 < y.length := by omega
   have hdd : (y.drop j).take 2 = [46, 46] := (by rcases c1' with h | h; omega; rw [show j + 2 - j = 2 by omega] at h; exact h)
   refine st ?_
   refine lv (Val.indexAddr_slp rfl rfl sl_166 (by omega) (by omega) (Sl.ptrM hr hk)) ?_
   refine lv (Val.load_gen rfl (fun w hm => Sl.loadM1 hr (by decide) hm (by simp) ty_9 hk (v := .string (bs y)) (by simp [strC, hy]))) ?_
   refine lv (Val.strTo (b := j) rfl rfl und_9 (by omega)) ?_
   refine RunL.callP (isCall_func rfl ent_150) rfl rfl rfl (fun w hm => number_calls14 (y.take j) w (hL.mono hm)) ?_
   refine st ?_
   refine lv (Val.indexAddr_slp rfl rfl sl_166 (by omega) (by omega) (Sl.ptrM hr hk)) ?_
   refine lv (Val.load_gen rfl (fun w hm => Sl.loadM1 hr (by decide) hm (by simp) ty_9 hk (v := .string (bs y)) (by simp [strC, hy]))) ?_
   refine lv (Val.addN (a := j) (b := 2) (j + 2) rfl rfl rfl (i64_inN (by omega))) ?_
   refine lv (Val.strFrom (a := j + 2) rfl rfl und_9 (by omega)) ?_
   refine RunL.callP (isCall_func rfl ent_150) rfl rfl rfl (fun w hm => number_calls14 (y.drop (j + 2)) w (hL.mono hm)) ?_
   refine st ?_
   refine RunL.orPart (dj := 71) (dp := 74) 3 rfl (fun g71 => by
     have g71' := g71
     try simp only [nH] at g71'
     refine sv ?_
     exact RunL.segEnd (Sub.cons rfl (Sub.skip rfl (Sub.skip rfl (Sub.skip rfl (Sub.same rfl (by rw [g71]) (Sub.refl _)))))) (List.Sublist.refl _)
   ) (fun g71 => by
     have g71' := g71
     try simp only [nH] at g71'
     refine RunL.no rfl rfl rfl ?_
     refine RunL.no rfl rfl rfl ?_
     refine sv ?_
     exact RunL.segEnd (Sub.cons rfl (Sub.skip rfl (Sub.skip rfl (Sub.skip rfl (Sub.same rfl (by rw [g71]) (Sub.refl _)))))) (List.Sublist.refl _)
   ) ?_
   refine st ?_
   refine cn rfl ?_ ?_
   ·intro c3'
    refine st ?_
    refine RunC.ret ?_
    refine RunE.pass_ret ?_
    refine RunE.block_ret ?_
    refine RunE.pass_ret ?_
    refine RunE.pass_ret ?_
    refine RunE.block_ret ?_
    refine RunE.pass_ret ?_
    exact RunE.retG ((none, []), false) ⟨ol_nil, (lineV_no hk (by rw [getD_of hk hy, spanO_at jI hdd]; rcases c3' with h | h; rw [numO_no h]; cases numO (y.take j) <;> rw [numO_no h])).symm⟩ (.r2 rfl (.tmp rfl) (.tmp rfl)) rfl (show Pick [] _ from .nil)
   intro c3'
   refine st ?_
   refine lv (Val.build (parts := [(0, .tmp 76), (1, .tmp 77)]) rfl zero_38 places_38 rfl) ?_
   refine RunL.new (New.buildSlice (parts := [(0, .tmp 78)]) rfl sl_22 zero_38 rfl rfl rfl rfl) rfl rfl rfl (fun b79 => ?_)
   refine RunL.append (A := [(b79, _)]) (B := _) (x := zo) (ys := (Sp.mk (numV (y.take j)).1 (numV (y.drop (j + 2))).1).cells) ap_22 rfl rfl rfl hzo rfl (fun h => by cases h) (fun w hm => src_blk (hm.at (.head _))) (one_of rfl) (by simp only [maxLen]; show zl.length + 1 ≤ _; omega) (by show (zl.length + 1) * 16 ≤ 140737488355328; omega) rfl (fun z80 hz80 => ?_)
   refine st ?_
   refine lv (Val.add rfl rfl (IntWalk.i64_in _ ⟨by omega, by omega⟩)) ?_
   exact RunE.roundX (z80, zl ++ [⟨(numV (y.take j)).1, (numV (y.drop (j + 2))).1⟩]) (by omega) ⟨ol_snoc (z := zo) (f := Sp.cells) hz80, lineV_s hk kI2 (by rw [getD_of hk hy, spanO_at jI hdd, numO_yes c3'.1, numO_yes c3'.2]), by show (zl ++ _).length = _; rw [List.length_append, kI3]; rfl⟩ rfl (Sub.consE (t := 7) rfl rfl (Sub.consE (t := 6) rfl (by simp) (Sub.cons (t := 0) rfl (Sub.cons (t := 1) rfl (Sub.nil _))))) (Pick.skip (Pick.same (by simp)))
  intro c0'
  obtain rfl : k = r.l.length - 1 := by omega
  obtain ⟨y0, hy0⟩ : ∃ y, r.l[0] = y := ⟨_, rfl⟩
  refine RunC.exit ?_
  refine RunE.pass_exit ?_
  refine RunE.pass_exit ?_
  refine RunE.block_here ?_
  refine st ?_
  refine RunC.draw 7 fol_ .nil ?_
  refine va 0 rfl (Val.pure rfl) rfl rfl rfl .nil rfl ?_
  refine va 1 rfl (Val.pure rfl) rfl rfl rfl .nil rfl ?_
  refine va 2 rfl (Val.indexAddr_slp rfl rfl sl_166 (by omega) (by omega) (Sl.ptrM hr h0)) rfl rfl rfl .nil rfl ?_
  refine va 3 rfl (Val.load_gen rfl (fun w hm => Sl.loadM1 hr (by decide) hm (by simp) ty_9 h0 (v := .string (bs y0)) (by simp [strC, hy0]))) rfl rfl rfl .nil rfl ?_
  refine va 4 rfl (Val.pure rfl) rfl rfl rfl .nil rfl ?_
  refine va 5 rfl (Val.eqlStr rfl rfl) rfl rfl rfl .nil rfl ?_
  refine va 6 rfl (Val.pure rfl) rfl rfl rfl .nil rfl ?_
  refine RunA.toB (by kernel_rfl) ?_
  refine RunB.one (i := 7) (by kernel_rfl) ?_
  refine RunI.val rfl (Val.pure rfl) rfl rfl rfl (RunK.toB ?_)
  refine RunB.done (by kernel_rfl) ?_
  refine st ?_
  refine RunC.ret ?_
  exact RunE.retG ((zo, zl), decide (y0 = wd)) ⟨hzo, by rw [lineV_end kI2, getD_of h0 hy0]⟩ (.r2 rfl (.tmp rfl) (.tmp rfl)) rfl (Pick.refl _)
end Go.Proofs.YtleamcmljcdapaaGreatDoor
namespace Go.Bk
open Go Go.Eng Go.RowKit
theorem allP_inv {α : Type} {f : Str → Option α} {g : α → Str} {P : α → Prop} (hf : ∀ s x, f s = some x → s = g x ∧ P x) : ∀ {ws : List Str} {l : List α}, allP f ws = some l → ws = l.map g ∧ ∀ x ∈ l, P x
  | [], l, h => by cases h; exact ⟨rfl, fun x h => by cases h⟩
  | w :: ws, l, h => by
    simp only [allP] at h
    split at h
    · rename_i a r h1 h2
      cases h
      obtain ⟨e1, p1⟩ := hf w a h1
      obtain ⟨e2, p2⟩ := allP_inv hf h2
      exact ⟨by rw [List.map_cons, ← e1, ← e2], fun x hx => by rcases List.mem_cons.1 hx with rfl | hx; exact p1; exact p2 x hx⟩
    · cases h
theorem lineV_inv {α : Type} {f : Str → Option α} {g : α → Str} {P : α → Prop} (hf : ∀ s x, f s = some x → s = g x ∧ P x) {ls : List Str} {w : Str} {l : List α} (hne : ls ≠ []) (h : lineV f ls w = (l, true)) : ls = w :: l.map g ∧ ∀ x ∈ l, P x := by
  unfold lineV at h
  split at h
  · rename_i r hr
    have h1 := congrArg Prod.fst h
    have h2 := congrArg Prod.snd h
    dsimp only at h1 h2
    subst h1
    have h3 := of_decide_eq_true h2
    obtain ⟨e, p⟩ := allP_inv hf hr
    cases ls with
    | nil => exact absurd rfl hne
    | cons a b =>
      have e3 : a = w := h3
      rw [List.drop_succ_cons, List.drop_zero] at e
      rw [e3, e]
      exact ⟨rfl, p⟩
  · cases h
theorem lineV_text {α : Type} {f : Str → Option α} {g : α → Str} {l : List α} {w : Str} (h : ∀ x ∈ l, f (g x) = some x) : lineV f (w :: l.map g) w = (l, true) := by
  unfold lineV
  rw [List.drop_succ_cons, List.drop_zero, allP_text h]
  simp
theorem nums_text {l : List Int} {w : Str} (h : ∀ n ∈ l, Big n) : lineV numO (w :: l.map Lib.itoa) w = (l, true) := lineV_text fun n hn => numO_itoa (h n hn)
theorem nums_inv {ls : List Str} {w : Str} {l : List Int} (hne : ls ≠ []) (h : lineV numO ls w = (l, true)) : ls = w :: l.map Lib.itoa ∧ ∀ n ∈ l, Big n := lineV_inv (fun _ _ h => numO_ok h) hne h
def BigS (s : Sp) : Prop := Big s.lo ∧ Big s.hi
theorem spans_text {l : List Sp} {w : Str} (h : ∀ s ∈ l, BigS s) : lineV spanO (rowL w l) w = (l, true) := lineV_text fun s hs => spanO_text (h s hs).1 (h s hs).2
theorem spans_inv {ls : List Str} {w : Str} {l : List Sp} (hne : ls ≠ []) (h : lineV spanO ls w = (l, true)) : ls = rowL w l ∧ ∀ s ∈ l, BigS s := lineV_inv (fun _ _ h => spanO_inv h) hne h
theorem pair_eta {α : Type} {p : α × Bool} (h : p.2 = true) : p = (p.1, true) := by rw [← h]
/-- What the reference makes of lines: the tour, and whether it is one. -/
def tourV (ls : List (List Str)) : Tr × Bool :=
  if ls.length < 4 then (zeroT, false) else
  if (lineV numO (ls.getD 0 []) wTour).2 = false ∨ (lineV numO (ls.getD 0 []) wTour).1.length ≠ 1 then (zeroT, false) else
  if (lineV spanO (ls.getD 1 []) wFrom).2 = false ∨ ls.length ≠ 4 + (lineV spanO (ls.getD 1 []) wFrom).1.length then (zeroT, false) else
  let t : Tr := ⟨(lineV numO (ls.getD 0 []) wTour).1.getD 0 0, (lineV spanO (ls.getD 1 []) wFrom).1, (List.range (lineV spanO (ls.getD 1 []) wFrom).1.length).map (fun i => (lineV spanO (ls.getD (2 + i) []) wWays).1), (lineV spanO (ls.getD (ls.length - 2) []) wStay).1, (lineV spanO (ls.getD (ls.length - 1) []) wLight).1⟩
  (t, ((List.range (lineV spanO (ls.getD 1 []) wFrom).1.length).all fun i => (lineV spanO (ls.getD (2 + i) []) wWays).2) && (lineV spanO (ls.getD (ls.length - 2) []) wStay).2 && (lineV spanO (ls.getD (ls.length - 1) []) wLight).2 && tourX t)
theorem getD_mem {α : Type} {l : List (List α)} {i : Nat} (h : i < l.length) : l.getD i [] ∈ l := by
  rw [List.getD_eq_getElem?_getD, List.getElem?_eq_getElem h]
  exact List.getElem_mem h
theorem big1440 {n : Int} (h0 : 0 ≤ n) (h : n ≤ 1440) : Big n := ⟨h0, by omega⟩
theorem tour_big {t : Tr} (h : tourX t = true) : Big t.dawn ∧ t.ways.length = t.fr.length ∧ (∀ s ∈ t.fr, BigS s) ∧ (∀ l ∈ t.ways, ∀ s ∈ l, BigS s) ∧ (∀ s ∈ t.stay, BigS s) ∧ (∀ s ∈ t.light, BigS s) := by
  unfold tourX at h
  simp only [Bool.and_eq_true, decide_eq_true_eq, within, Bool.not_eq_true', List.any_eq_false, badRow, Bool.or_eq_true, not_or, badSp, Bool.not_eq_false] at h
  obtain ⟨⟨⟨h1, h2⟩, h3⟩, h4⟩ := h
  have hs : ∀ l ∈ t.ways ++ [t.fr, t.stay, t.light], ∀ s ∈ l, BigS s := fun l hl s hs => by
    have h5 := any_no (p := badSp) (by simpa using (h4 l hl).2) hs
    simp only [badSp, Bool.not_eq_false', spanX, Bool.and_eq_true, decide_eq_true_eq] at h5
    exact ⟨big1440 h5.1.1 (by omega), big1440 (by omega) h5.2⟩
  exact ⟨big1440 h3.1 h3.2, h2, hs _ (by simp), fun l hl => hs l (List.mem_append_left _ hl), hs _ (by simp), hs _ (by simp)⟩
theorem tourLs_len (t : Tr) : (tourLs t).length = 4 + t.ways.length := by simp [tourLs]; omega
theorem tourLs_0 (t : Tr) : (tourLs t).getD 0 [] = wTour :: [t.dawn].map Lib.itoa := rfl
theorem tourLs_1 (t : Tr) : (tourLs t).getD 1 [] = rowL wFrom t.fr := rfl
theorem tourLs_2 (t : Tr) : tourLs t = [wTour, Lib.itoa t.dawn] :: rowL wFrom t.fr :: (t.ways.map (rowL wWays) ++ [rowL wStay t.stay, rowL wLight t.light]) := by simp [tourLs]
theorem getD_drop2 {α : Type} {a b : α} {l : List α} {d : α} {i : Nat} : (a :: b :: l).getD (2 + i) d = l.getD i d := by
  rw [Nat.add_comm]
  rfl
theorem tourLs_way {t : Tr} {i : Nat} (h : i < t.ways.length) : (tourLs t).getD (2 + i) [] = rowL wWays (t.ways.getD i []) := by
  rw [tourLs_2, getD_drop2, List.getD_eq_getElem?_getD, List.getElem?_append_left (by simpa using h), List.getElem?_map, List.getElem?_eq_getElem h, List.getD_eq_getElem?_getD, List.getElem?_eq_getElem h]
  rfl
theorem tourLs_stay (t : Tr) : (tourLs t).getD ((tourLs t).length - 2) [] = rowL wStay t.stay := by
  rw [tourLs_len, show 4 + t.ways.length - 2 = 2 + t.ways.length by omega, tourLs_2, getD_drop2, List.getD_eq_getElem?_getD, List.getElem?_append_right (by simp)]
  simp
theorem tourLs_light (t : Tr) : (tourLs t).getD ((tourLs t).length - 1) [] = rowL wLight t.light := by
  rw [tourLs_len, show 4 + t.ways.length - 1 = 2 + (t.ways.length + 1) by omega, tourLs_2, getD_drop2, List.getD_eq_getElem?_getD, List.getElem?_append_right (by simp)]
  simp
theorem map_getD {α : Type} {l : List α} {d : α} {n : Nat} (h : l.length = n) : (List.range n).map (fun i => l.getD i d) = l := by
  subst h
  refine List.ext_getElem (by simp) fun i h1 h2 => ?_
  rw [List.getElem_map, List.getElem_range, List.getD_eq_getElem?_getD, List.getElem?_eq_getElem h2]
  rfl
theorem tourV_text {t : Tr} (h : tourX t = true) : tourV (tourLs t) = (t, true) := by
  obtain ⟨h1, h2, h3, h4, h5, h6⟩ := tour_big h
  have e0 : lineV numO ((tourLs t).getD 0 []) wTour = ([t.dawn], true) := by rw [tourLs_0]; exact nums_text fun n hn => by rw [List.mem_singleton] at hn; subst hn; exact h1
  have e1 : lineV spanO ((tourLs t).getD 1 []) wFrom = (t.fr, true) := by rw [tourLs_1]; exact spans_text h3
  have e2 : ∀ i, i < t.ways.length → lineV spanO ((tourLs t).getD (2 + i) []) wWays = (t.ways.getD i [], true) := fun i hi => by rw [tourLs_way hi]; exact spans_text (h4 _ (getD_mem hi))
  have e3 : lineV spanO ((tourLs t).getD ((tourLs t).length - 2) []) wStay = (t.stay, true) := by rw [tourLs_stay]; exact spans_text h5
  have e4 : lineV spanO ((tourLs t).getD ((tourLs t).length - 1) []) wLight = (t.light, true) := by rw [tourLs_light]; exact spans_text h6
  have hl := tourLs_len t
  unfold tourV
  rw [if_neg (by omega), e0, if_neg (by simp), e1, if_neg (by simp; omega), e3, e4]
  have e5 : (List.range t.fr.length).map (fun i => (lineV spanO ((tourLs t).getD (2 + i) []) wWays).1) = t.ways := by
    rw [List.map_congr_left (g := fun i => t.ways.getD i []) fun i hi => by rw [e2 i (by rw [h2]; exact List.mem_range.1 hi)]]
    exact map_getD h2
  have e6 : ((List.range t.fr.length).all fun i => (lineV spanO ((tourLs t).getD (2 + i) []) wWays).2) = true := List.all_eq_true.2 fun i hi => by rw [e2 i (by rw [h2]; exact List.mem_range.1 hi)]
  dsimp only
  rw [e5, e6]
  show (t, true && true && true && tourX t) = (t, true)
  rw [h]
  rfl
theorem tourV_inv {ls : List (List Str)} (hne : ∀ l ∈ ls, l ≠ []) (h : (tourV ls).2 = true) : tourX (tourV ls).1 = true ∧ tourLs (tourV ls).1 = ls := by
  unfold tourV at h ⊢
  split at h
  · cases h
  · rename_i h4
    rw [if_neg h4]
    split at h
    · cases h
    · rename_i hd
      rw [if_neg hd]
      split at h
      · cases h
      · rename_i hf
        rw [if_neg hf]
        simp only [not_or, Bool.not_eq_false, ne_eq, Decidable.not_not] at hd hf
        dsimp only at h ⊢
        rw [Bool.and_eq_true, Bool.and_eq_true, Bool.and_eq_true, List.all_eq_true] at h
        obtain ⟨⟨⟨hw, hs⟩, hg⟩, hx⟩ := h
        refine ⟨hx, ?_⟩
        have i0 := nums_inv (hne _ (getD_mem (by omega))) (pair_eta hd.1)
        have i1 := spans_inv (hne _ (getD_mem (by omega))) (pair_eta hf.1)
        have i3 := spans_inv (hne _ (getD_mem (by omega))) (pair_eta hs)
        have i4 := spans_inv (hne _ (getD_mem (by omega))) (pair_eta hg)
        generalize (lineV numO (ls.getD 0 []) wTour).1 = dl at hd i0 ⊢
        generalize (lineV spanO (ls.getD 1 []) wFrom).1 = fl at hf hw i1 ⊢
        generalize (lineV spanO (ls.getD (ls.length - 2) []) wStay).1 = sl at i3 ⊢
        generalize (lineV spanO (ls.getD (ls.length - 1) []) wLight).1 = gl at i4 ⊢
        obtain ⟨d, rfl⟩ : ∃ d, dl = [d] := List.length_eq_one_iff.1 hd.2
        refine List.ext_getElem ?_ fun i g1 g2 => ?_
        · rw [tourLs_len]; simp; omega
        · have gd : ∀ {l : List (List Str)} (h : i < l.length), l[i] = l.getD i [] := fun h => by rw [List.getD_eq_getElem?_getD, List.getElem?_eq_getElem h]; rfl
          rw [gd g1, gd g2]
          rw [tourLs_len] at g1
          simp only [List.length_map, List.length_range] at g1
          rcases Nat.lt_or_ge i 2 with hi | hi
          · have : i = 0 ∨ i = 1 := by omega
            rcases this with rfl | rfl
            · rw [tourLs_0, i0.1]; rfl
            · rw [tourLs_1, i1.1]
          · obtain ⟨j, rfl⟩ : ∃ j, i = 2 + j := ⟨i - 2, by omega⟩
            rcases Nat.lt_trichotomy j fl.length with hj | hj | hj
            · rw [tourLs_way (by simpa using hj)]
              have i2 := spans_inv (hne _ (getD_mem (i := 2 + j) (by omega))) (pair_eta (hw j (List.mem_range.2 hj)))
              rw [i2.1]
              congr 1
              rw [List.getD_eq_getElem?_getD, List.getElem?_map, List.getElem?_range hj]
              rfl
            · subst hj
              have e := tourLs_stay ⟨[d].getD 0 0, fl, (List.range fl.length).map fun i => (lineV spanO (ls.getD (2 + i) []) wWays).1, sl, gl⟩
              rw [tourLs_len] at e
              simp only [List.length_map, List.length_range] at e
              rw [show 4 + fl.length - 2 = 2 + fl.length by omega] at e
              rw [e, show 2 + fl.length = ls.length - 2 by omega, i3.1]
            · have e := tourLs_light ⟨[d].getD 0 0, fl, (List.range fl.length).map fun i => (lineV spanO (ls.getD (2 + i) []) wWays).1, sl, gl⟩
              rw [tourLs_len] at e
              simp only [List.length_map, List.length_range] at e
              rw [show 4 + fl.length - 1 = 2 + j by omega] at e
              rw [e, show 2 + j = ls.length - 1 by omega, i4.1]
theorem tour_says {ls : List (List Str)} (hne : ∀ l ∈ ls, l ≠ []) : LinesSay tourX tourLs ls (tourV ls).1 (tourV ls).2 :=
  ⟨fun h => tourV_inv hne h, fun h y hy e => by rw [← e, tourV_text hy] at h; cases h⟩
end Go.Bk
namespace Go.Proofs.YtleamcmljcdapaaGreatDoor
open Go Go.Eng
theorem ap_84 : apB Tryz.prog 84 = some (166, 1, 24) := by kernel_rfl
theorem ent_105 : Enters Tryz.prog 105 := enters_of Tryz.func105 (by kernel_rfl) rfl
theorem ent_106 : Enters Tryz.prog 106 := enters_of Tryz.func106 (by kernel_rfl) rfl
theorem ent_107 : Enters Tryz.prog 107 := enters_of Tryz.func107 (by kernel_rfl) rfl
theorem sl_84 : slB Tryz.prog 84 = some (166, 1) := by kernel_rfl
theorem zero_166 : zeroB Tryz.prog 166 = some [.slice none 0 0] := by kernel_rfl
end Go.Proofs.YtleamcmljcdapaaGreatDoor
