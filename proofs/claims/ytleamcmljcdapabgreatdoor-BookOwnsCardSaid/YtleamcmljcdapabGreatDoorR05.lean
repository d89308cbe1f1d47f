/- Walks of the reference of layer 14: what is the same: cabinets, royalties, bytes. -/
import Derived.Test.YtleamcmljcdapabGreatDoorR04
import Derived.Test.YtleamcmljcdapabGreatDoorRows
import Derived.Lib.LaidTab
import Derived.Stop.LaidErr
import Derived.MakeChecks
import Derived.Shelf.Vars
import Derived.Handed
import Derived.HandedShaped
import Derived.Lay
set_option linter.unusedSimpArgs false
set_option linter.unusedVariables false
namespace Go.Bk
open Go Go.Eng Go.RowKit
theorem cb_same {p q : Cb} (h : p.loans = q.loans) : decide (p = q) = (decide (p.slots = q.slots) && (decide (p.wrong = q.wrong) && decide (p.homes = q.homes))) := by
  cases p; cases q; simp_all
  exact Bool.eq_iff_iff.2 (by simp; intro _; exact and_comm)
theorem cb_ne {p q : Cb} (h : p.loans ≠ q.loans) : decide (p = q) = false := decide_eq_false fun e => h (e ▸ rfl)
theorem ry_same {p q : Ry} (h1 : p.terms = q.terms) (h2 : p.shares = q.shares) (h3 : p.reports = q.reports) : decide (p = q) = (decide (p.prices = q.prices) && decide (p.paid = q.paid)) := by
  cases p; cases q; simp_all
theorem ry_ne1 {p q : Ry} (h : p.terms ≠ q.terms) : decide (p = q) = false := decide_eq_false fun e => h (e ▸ rfl)
theorem ry_ne2 {p q : Ry} (h : p.shares ≠ q.shares) : decide (p = q) = false := decide_eq_false fun e => h (e ▸ rfl)
theorem ry_ne3 {p q : Ry} (h : p.reports ≠ q.reports) : decide (p = q) = false := decide_eq_false fun e => h (e ▸ rfl)
end Go.Bk
namespace Go.Proofs.YtleamcmljcdapabGreatDoor
open Go Go.Eng Go.Bk Go.RowKit

theorem rsameCabinet_calls (c d : CbA) (hs : CbS c) (hs2 : CbS d) (W : World) (hC : CbOk W c) (hD : CbOk W d) : Calls Tryz.prog 16 #[c.v, d.v] W (Pure (.bool (decide (c.pl = d.pl))) W) := by
  have s1 := hs.homes
  have s2 := hs.loans
  have u1 := hs2.homes
  have u2 := hs2.loans
  refine calls_start Tryz.func16 rfl rfl ?_
  refine st ?_
  refine RunL.new (New.box rfl) rfl rfl rfl (fun b2 => ?_)
  refine RunL.new (New.box rfl) rfl rfl rfl (fun b3 => ?_)
  refine st ?_
  refine lv (Val.fieldAddr rfl fld_34_3) ?_
  refine lv (Val.load_one rfl (.tail _ (.head _)) ty_32 rfl) ?_
  refine lv (Val.len_sl rfl sl_32) ?_
  refine lv (Val.fieldAddr rfl fld_34_3) ?_
  refine lv (Val.load_one rfl (.head _) ty_32 rfl) ?_
  refine lv (Val.len_sl rfl sl_32) ?_
  refine cn rfl ?_ ?_
  ·intro c0'
   refine st ?_
   refine RunC.ret ?_
   refine RunE.pass_ret ?_
   exact RunE.retP (.r1 rfl (.tmp rfl)) (by first | (rw [cb_ne (show c.pl.loans ≠ d.pl.loans from ne_at hk hk2 hx hy (by rintro rfl; simp_all))]; done) | (rw [cb_ne (show c.pl.loans ≠ d.pl.loans from ne_len (show c.loans.l.length ≠ d.loans.l.length by omega))]; done) | (rw [cb_same (show c.pl.loans = d.pl.loans from eq_end (show c.loans.l.length = d.loans.l.length by omega) kI)]; exact congrArg Value.bool (by rw [Bool.and_assoc]; rfl)))
  intro c0'
  refine st ?_
  refine RunC.loopK (c.loans.l.length) (fun k q => (5, .int .i64 (k : Int)) :: q) (fun _ => _) (fun _ => []) (fun k => c.loans.l.take k = d.loans.l.take k) (by simp) rfl (Sub.consE (t := 5) rfl rfl (Sub.cons (t := 2) rfl (Sub.cons (t := 3) rfl (Sub.nil _)))) (.cons .here rfl (.cons .here rfl .nil)) ?_
  intro k kN kI
  refine st ?_
  refine lv (Val.fieldAddr rfl fld_34_3) ?_
  refine lv (Val.load_one rfl (.tail _ (.head _)) ty_32 rfl) ?_
  refine lv (Val.len_sl rfl sl_32) ?_
  refine cn rfl ?_ ?_
  ·intro c1'
   have hk : k < c.loans.l.length := by omega
   have hk2 : k < d.loans.l.length := by omega
   obtain ⟨x, hx⟩ : ∃ x, c.loans.l[k] = x := ⟨_, rfl⟩
   obtain ⟨y, hy⟩ : ∃ y, d.loans.l[k] = y := ⟨_, rfl⟩
   refine st ?_
   refine RunC.draw 10 fol_ (.cons .here rfl (.cons .here rfl .nil)) ?_
   refine va 0 rfl (Val.fieldAddr rfl fld_34_3) rfl rfl rfl (.cons .here rfl (.cons .here rfl .nil)) rfl ?_
   refine va 1 rfl (Val.load_one rfl (.tail _ (.head _)) ty_32 rfl) rfl rfl rfl (.cons .here rfl (.cons .here rfl .nil)) rfl ?_
   refine va 2 rfl (Val.pure rfl) rfl rfl rfl (.cons .here rfl (.cons .here rfl .nil)) rfl ?_
   refine va 3 rfl (Val.indexAddr_slp rfl rfl sl_32 (by omega) (by omega) (Sl.ptrM hC.loans hk)) rfl rfl rfl (.cons .here rfl (.cons .here rfl .nil)) rfl ?_
   refine va 4 rfl (Val.load_gen rfl (fun w hm => Sl.loadX hC.loans (by decide) hm (by simp) ty_74 hk hx)) rfl rfl rfl (.cons .here rfl (.cons .here rfl .nil)) rfl ?_
   refine va 5 rfl (Val.fieldAddr rfl fld_34_3) rfl rfl rfl (.cons .here rfl (.cons .here rfl .nil)) rfl ?_
   refine va 6 rfl (Val.load_one rfl (.head _) ty_32 rfl) rfl rfl rfl (.cons .here rfl (.cons .here rfl .nil)) rfl ?_
   refine va 7 rfl (Val.pure rfl) rfl rfl rfl (.cons .here rfl (.cons .here rfl .nil)) rfl ?_
   refine va 8 rfl (Val.indexAddr_slp rfl rfl sl_32 (by omega) (by omega) (Sl.ptrM hD.loans hk2)) rfl rfl rfl (.cons .here rfl (.cons .here rfl .nil)) rfl ?_
   refine va 9 rfl (Val.load_gen rfl (fun w hm => Sl.loadX hD.loans (by decide) hm (by simp) ty_74 hk2 hy)) rfl rfl rfl (.cons .here rfl (.cons .here rfl .nil)) rfl ?_
   refine RunA.toB (by kernel_rfl) ?_
   refine RunB.one (i := 10) (by kernel_rfl) ?_
   refine RunI.val rfl (Val.neq_flat rfl rfl eqB_74 (kl_74 _ _ _ _ _ _ _ _ )) rfl rfl rfl (RunK.toB ?_)
   refine RunB.done (by kernel_rfl) ?_
   refine st ?_
   refine cn rfl ?_ ?_
   ·intro c2'
    refine st ?_
    refine RunC.ret ?_
    refine RunE.block_ret ?_
    refine RunE.pass_ret ?_
    refine RunE.pass_ret ?_
    refine RunE.block_ret ?_
    refine RunE.pass_ret ?_
    exact RunE.retP (.r1 rfl (.tmp rfl)) (by first | (rw [cb_ne (show c.pl.loans ≠ d.pl.loans from ne_at hk hk2 hx hy (by rintro rfl; simp_all))]; done) | (rw [cb_ne (show c.pl.loans ≠ d.pl.loans from ne_len (show c.loans.l.length ≠ d.loans.l.length by omega))]; done) | (rw [cb_same (show c.pl.loans = d.pl.loans from eq_end (show c.loans.l.length = d.loans.l.length by omega) kI)]; exact congrArg Value.bool (by rw [Bool.and_assoc]; rfl)))
   intro c2'
   refine st ?_
   refine lv (Val.add rfl rfl (IntWalk.i64_in _ ⟨by omega, by omega⟩)) ?_
   exact RunE.round (by omega) (eqT_step hk hk2 hx hy kI (by cases x; cases y; simp_all)) rfl (Sub.consE (t := 5) rfl rfl (Sub.cons (t := 2) rfl (Sub.cons (t := 3) rfl (Sub.nil _)))) (.cons .here rfl (.cons .here rfl .nil))
  intro c1'
  obtain rfl : k = c.loans.l.length := by omega
  refine RunC.exit ?_
  refine RunE.pass_exit ?_
  refine RunE.pass_exit ?_
  refine RunE.block_here ?_
  refine st ?_
  refine lv (Val.fieldAddr rfl fld_34_0) ?_
  refine lv (Val.load_one rfl (.tail _ (.head _)) ty_3 rfl) ?_
  refine lv (Val.fieldAddr rfl fld_34_0) ?_
  refine lv (Val.load_one rfl (.head _) ty_3 rfl) ?_
  refine RunL.andPart (dj := 36) (dp := 42) 6 rfl (fun g36 => by
    have g36' := g36
    try simp only [nH] at g36'
    refine lv (Val.fieldAddr rfl fld_34_2) ?_
    refine lv (Val.load_one rfl (.tail _ (.head _)) ty_3 rfl) ?_
    refine lv (Val.fieldAddr rfl fld_34_2) ?_
    refine RunL.val (Val.load_one rfl (.head _) ty_3 rfl) rfl rfl rfl ?_
    refine sv ?_
    exact RunL.segEnd (Sub.cons rfl (Sub.skip rfl (Sub.skip rfl (Sub.skip rfl (Sub.skip rfl (Sub.skip rfl (Sub.skip rfl (Sub.same rfl (by rw [g36]) (Sub.refl _))))))))) (List.Sublist.refl _)
  ) (fun g36 => by
    have g36' := g36
    try simp only [nH] at g36'
    iterate 5 refine RunL.no rfl rfl rfl ?_
    refine sv ?_
    exact RunL.segEnd (Sub.cons rfl (Sub.skip rfl (Sub.skip rfl (Sub.skip rfl (Sub.skip rfl (Sub.skip rfl (Sub.skip rfl (Sub.same rfl (by rw [g36]) (Sub.refl _))))))))) (List.Sublist.refl _)
  ) ?_
  refine st ?_
  refine RunL.andPart (dj := 43) (dp := 49) 6 rfl (fun g43 => by
    have g43' := g43
    try simp only [nH] at g43'
    refine lv (Val.fieldAddr rfl fld_34_1) ?_
    refine lv (Val.load_one rfl (.tail _ (.head _)) ty_31 rfl) ?_
    refine lv (Val.fieldAddr rfl fld_34_1) ?_
    refine lv (Val.load_one rfl (.head _) ty_31 rfl) ?_
    refine RunL.callP (isCall_func rfl ent_51) rfl rfl rfl (fun w hm => (rsameInts_calls c.homes d.homes w (hC.homes.mono0 (by decide) hm) (hD.homes.mono0 (by decide) hm) (by omega) (by omega))) ?_
    refine sv ?_
    exact RunL.segEnd (Sub.cons rfl (Sub.skip rfl (Sub.skip rfl (Sub.skip rfl (Sub.skip rfl (Sub.skip rfl (Sub.skip rfl (Sub.same rfl (by rw [g43]) (Sub.refl _))))))))) (List.Sublist.refl _)
  ) (fun g43 => by
    have g43' := g43
    try simp only [nH] at g43'
    iterate 5 refine RunL.no rfl rfl rfl ?_
    refine sv ?_
    exact RunL.segEnd (Sub.cons rfl (Sub.skip rfl (Sub.skip rfl (Sub.skip rfl (Sub.skip rfl (Sub.skip rfl (Sub.skip rfl (Sub.same rfl (by rw [g43]) (Sub.refl _))))))))) (List.Sublist.refl _)
  ) ?_
  refine st ?_
  refine RunC.ret ?_
  exact RunE.retP (.r1 rfl (.tmp rfl)) (by first | (rw [cb_ne (show c.pl.loans ≠ d.pl.loans from ne_at hk hk2 hx hy (by rintro rfl; simp_all))]; done) | (rw [cb_ne (show c.pl.loans ≠ d.pl.loans from ne_len (show c.loans.l.length ≠ d.loans.l.length by omega))]; done) | (rw [cb_same (show c.pl.loans = d.pl.loans from eq_end (show c.loans.l.length = d.loans.l.length by omega) kI)]; exact congrArg Value.bool (by rw [Bool.and_assoc]; rfl)))
theorem rsameRoyal_calls (r q : RyA) (hs : RySm r) (hs2 : RySm q) (W : World) (hR : RyOk W r) (hQ : RyOk W q) : Calls Tryz.prog 18 #[r.v, q.v] W (Pure (.bool (decide (r.pl = q.pl))) W) := by
  obtain ⟨s1, s2, s3, s4, s5, s6⟩ := id hs
  obtain ⟨u1, u2, u3, u4, u5, u6⟩ := id hs2
  refine calls_start Tryz.func18 rfl rfl ?_
  refine st ?_
  refine RunL.new (New.box rfl) rfl rfl rfl (fun b2 => ?_)
  refine RunL.new (New.box rfl) rfl rfl rfl (fun b3 => ?_)
  refine st ?_
  refine lv (Val.fieldAddr rfl fld_41_0) ?_
  refine lv (Val.load_one rfl (.tail _ (.head _)) ty_37 rfl) ?_
  refine lv (Val.len_sl rfl sl_37) ?_
  refine lv (Val.fieldAddr rfl fld_41_0) ?_
  refine lv (Val.load_one rfl (.head _) ty_37 rfl) ?_
  refine lv (Val.len_sl rfl sl_37) ?_
  refine RunL.orPart (dj := 15) (dp := 23) 8 rfl (fun g15 => by
    have g15' := g15
    try simp only [nH] at g15'
    refine lv (Val.fieldAddr rfl fld_41_2) ?_
    refine lv (Val.load_one rfl (.tail _ (.head _)) ty_38 rfl) ?_
    refine lv (Val.len_sl rfl sl_38) ?_
    refine lv (Val.fieldAddr rfl fld_41_2) ?_
    refine lv (Val.load_one rfl (.head _) ty_38 rfl) ?_
    refine RunL.val (Val.len_sl rfl sl_38) rfl rfl rfl ?_
    refine sv ?_
    exact RunL.segEnd (Sub.cons rfl (Sub.skip rfl (Sub.skip rfl (Sub.skip rfl (Sub.skip rfl (Sub.skip rfl (Sub.skip rfl (Sub.skip rfl (Sub.skip rfl (Sub.same rfl (by rw [g15]) (Sub.refl _))))))))))) (List.Sublist.refl _)
  ) (fun g15 => by
    have g15' := g15
    try simp only [nH] at g15'
    iterate 7 refine RunL.no rfl rfl rfl ?_
    refine sv ?_
    exact RunL.segEnd (Sub.cons rfl (Sub.skip rfl (Sub.skip rfl (Sub.skip rfl (Sub.skip rfl (Sub.skip rfl (Sub.skip rfl (Sub.skip rfl (Sub.skip rfl (Sub.same rfl (by rw [g15]) (Sub.refl _))))))))))) (List.Sublist.refl _)
  ) ?_
  refine st ?_
  refine RunL.orPart (dj := 24) (dp := 32) 8 rfl (fun g24 => by
    have g24' := g24
    try simp only [nH] at g24'
    refine lv (Val.fieldAddr rfl fld_41_3) ?_
    refine lv (Val.load_one rfl (.tail _ (.head _)) ty_39 rfl) ?_
    refine lv (Val.len_sl rfl sl_39) ?_
    refine lv (Val.fieldAddr rfl fld_41_3) ?_
    refine lv (Val.load_one rfl (.head _) ty_39 rfl) ?_
    refine RunL.val (Val.len_sl rfl sl_39) rfl rfl rfl ?_
    refine sv ?_
    exact RunL.segEnd (Sub.cons rfl (Sub.skip rfl (Sub.skip rfl (Sub.skip rfl (Sub.skip rfl (Sub.skip rfl (Sub.skip rfl (Sub.skip rfl (Sub.skip rfl (Sub.same rfl (by rw [g24]) (Sub.refl _))))))))))) (List.Sublist.refl _)
  ) (fun g24 => by
    have g24' := g24
    try simp only [nH] at g24'
    iterate 7 refine RunL.no rfl rfl rfl ?_
    refine sv ?_
    exact RunL.segEnd (Sub.cons rfl (Sub.skip rfl (Sub.skip rfl (Sub.skip rfl (Sub.skip rfl (Sub.skip rfl (Sub.skip rfl (Sub.skip rfl (Sub.skip rfl (Sub.same rfl (by rw [g24]) (Sub.refl _))))))))))) (List.Sublist.refl _)
  ) ?_
  refine st ?_
  refine cn rfl ?_ ?_
  ·intro c0'
   refine st ?_
   refine RunC.ret ?_
   refine RunE.pass_ret ?_
   exact RunE.retP (.r1 rfl (.tmp rfl)) (by first | (rw [ry_same f1 f2 f3]; rfl) | (rw [ry_ne3 (show r.pl.reports ≠ q.pl.reports from ne_at hk hk2 hx hy (by rintro rfl; simp_all))]; done) | (rw [ry_ne2 (show r.pl.shares ≠ q.pl.shares from mapT_ne hk hk2 hx hy (by simp_all))]; done) | (rw [ry_ne1 (show r.pl.terms ≠ q.pl.terms from ne_at hk hk2 hx hy (by rintro rfl; simp_all))]; done) | (refine congrArg Value.bool (decide_eq_false fun e => ?_).symm; have d1 : r.terms.l.length = q.terms.l.length := congrArg (fun z : Ry => z.terms.length) e; have d2 : r.pl.shares.length = q.pl.shares.length := congrArg (fun z : Ry => z.shares.length) e; have d3 : r.reports.l.length = q.reports.l.length := congrArg (fun z : Ry => z.reports.length) e; simp only [RyA.pl, List.length_map] at d2; simp_all; done))
  intro c0'
  have e1 : r.terms.l.length = q.terms.l.length := by (have := c0'.1.1; omega)
  have e2 : r.shares.l.length = q.shares.l.length := by (have := c0'.1.2; omega)
  have e3 : r.reports.l.length = q.reports.l.length := by (have := c0'.2; omega)
  refine st ?_
  refine RunC.loopK (r.terms.l.length) (fun k q => (5, .int .i64 (k : Int)) :: q) (fun _ => _) (fun _ => []) (fun k => r.terms.l.take k = q.terms.l.take k) (by simp) rfl (Sub.consE (t := 5) rfl rfl (Sub.cons (t := 2) rfl (Sub.cons (t := 3) rfl (Sub.nil _)))) (.cons .here rfl (.cons .here rfl .nil)) ?_
  intro k kN kI
  refine st ?_
  refine lv (Val.fieldAddr rfl fld_41_0) ?_
  refine lv (Val.load_one rfl (.tail _ (.head _)) ty_37 rfl) ?_
  refine lv (Val.len_sl rfl sl_37) ?_
  refine cn rfl ?_ ?_
  ·intro c1'
   have hk : k < r.terms.l.length := by omega
   have hk2 : k < q.terms.l.length := by omega
   obtain ⟨x, hx⟩ : ∃ x, r.terms.l[k] = x := ⟨_, rfl⟩
   obtain ⟨y, hy⟩ : ∃ y, q.terms.l[k] = y := ⟨_, rfl⟩
   refine st ?_
   refine RunC.draw 10 fol_ (.cons .here rfl (.cons .here rfl .nil)) ?_
   refine va 0 rfl (Val.fieldAddr rfl fld_41_0) rfl rfl rfl (.cons .here rfl (.cons .here rfl .nil)) rfl ?_
   refine va 1 rfl (Val.load_one rfl (.tail _ (.head _)) ty_37 rfl) rfl rfl rfl (.cons .here rfl (.cons .here rfl .nil)) rfl ?_
   refine va 2 rfl (Val.pure rfl) rfl rfl rfl (.cons .here rfl (.cons .here rfl .nil)) rfl ?_
   refine va 3 rfl (Val.indexAddr_slp rfl rfl sl_37 (by omega) (by omega) (Sl.ptrM hR.terms hk)) rfl rfl rfl (.cons .here rfl (.cons .here rfl .nil)) rfl ?_
   refine va 4 rfl (Val.load_gen rfl (fun w hm => Sl.loadX hR.terms (by decide) hm (by simp) ty_124 hk hx)) rfl rfl rfl (.cons .here rfl (.cons .here rfl .nil)) rfl ?_
   refine va 5 rfl (Val.fieldAddr rfl fld_41_0) rfl rfl rfl (.cons .here rfl (.cons .here rfl .nil)) rfl ?_
   refine va 6 rfl (Val.load_one rfl (.head _) ty_37 rfl) rfl rfl rfl (.cons .here rfl (.cons .here rfl .nil)) rfl ?_
   refine va 7 rfl (Val.pure rfl) rfl rfl rfl (.cons .here rfl (.cons .here rfl .nil)) rfl ?_
   refine va 8 rfl (Val.indexAddr_slp rfl rfl sl_37 (by omega) (by omega) (Sl.ptrM hQ.terms hk2)) rfl rfl rfl (.cons .here rfl (.cons .here rfl .nil)) rfl ?_
   refine va 9 rfl (Val.load_gen rfl (fun w hm => Sl.loadX hQ.terms (by decide) hm (by simp) ty_124 hk2 hy)) rfl rfl rfl (.cons .here rfl (.cons .here rfl .nil)) rfl ?_
   refine RunA.toB (by kernel_rfl) ?_
   refine RunB.one (i := 10) (by kernel_rfl) ?_
   refine RunI.val rfl (Val.neq_flat rfl rfl eqB_124 (kl_124 _ _ _ _ _ _ )) rfl rfl rfl (RunK.toB ?_)
   refine RunB.done (by kernel_rfl) ?_
   refine st ?_
   refine cn rfl ?_ ?_
   ·intro c2'
    refine st ?_
    refine RunC.ret ?_
    refine RunE.block_ret ?_
    refine RunE.pass_ret ?_
    refine RunE.pass_ret ?_
    refine RunE.block_ret ?_
    refine RunE.pass_ret ?_
    exact RunE.retP (.r1 rfl (.tmp rfl)) (by first | (rw [ry_same f1 f2 f3]; rfl) | (rw [ry_ne3 (show r.pl.reports ≠ q.pl.reports from ne_at hk hk2 hx hy (by rintro rfl; simp_all))]; done) | (rw [ry_ne2 (show r.pl.shares ≠ q.pl.shares from mapT_ne hk hk2 hx hy (by simp_all))]; done) | (rw [ry_ne1 (show r.pl.terms ≠ q.pl.terms from ne_at hk hk2 hx hy (by rintro rfl; simp_all))]; done) | (refine congrArg Value.bool (decide_eq_false fun e => ?_).symm; have d1 : r.terms.l.length = q.terms.l.length := congrArg (fun z : Ry => z.terms.length) e; have d2 : r.pl.shares.length = q.pl.shares.length := congrArg (fun z : Ry => z.shares.length) e; have d3 : r.reports.l.length = q.reports.l.length := congrArg (fun z : Ry => z.reports.length) e; simp only [RyA.pl, List.length_map] at d2; simp_all; done))
   intro c2'
   refine st ?_
   refine lv (Val.add rfl rfl (IntWalk.i64_in _ ⟨by omega, by omega⟩)) ?_
   exact RunE.round (by omega) (eqT_step hk hk2 hx hy kI (by cases x; cases y; simp_all)) rfl (Sub.consE (t := 5) rfl rfl (Sub.cons (t := 2) rfl (Sub.cons (t := 3) rfl (Sub.nil _)))) (.cons .here rfl (.cons .here rfl .nil))
  intro c1'
  obtain rfl : k = r.terms.l.length := by omega
  have f1 : r.pl.terms = q.pl.terms := eq_end e1 kI
  clear kI kN
  refine RunC.exit ?_
  refine RunE.pass_exit ?_
  refine RunE.pass_exit ?_
  refine RunE.block_here ?_
  refine st ?_
  refine RunC.loopK (r.shares.l.length) (fun k q => (6, .int .i64 (k : Int)) :: q) (fun _ => _) (fun _ => []) (fun k => (r.shares.l.map (·.l)).take k = (q.shares.l.map (·.l)).take k) (by simp) rfl (Sub.consE (t := 6) rfl rfl (Sub.cons (t := 2) rfl (Sub.cons (t := 3) rfl (Sub.nil _)))) (.cons .here rfl (.cons .here rfl .nil)) ?_
  intro k kN kI
  refine st ?_
  refine lv (Val.fieldAddr rfl fld_41_2) ?_
  refine lv (Val.load_one rfl (.tail _ (.head _)) ty_38 rfl) ?_
  refine lv (Val.len_sl rfl sl_38) ?_
  refine cn rfl ?_ ?_
  ·intro c3'
   have hk : k < r.shares.l.length := by omega
   have hk2 : k < q.shares.l.length := by omega
   obtain ⟨x, hx⟩ : ∃ x, r.shares.l[k] = x := ⟨_, rfl⟩
   obtain ⟨y, hy⟩ : ∃ y, q.shares.l[k] = y := ⟨_, rfl⟩
   have hxm : x ∈ r.shares.l := hx ▸ List.getElem_mem hk
   have hym : y ∈ q.shares.l := hy ▸ List.getElem_mem hk2
   refine st ?_
   refine RunC.draw 10 fol_ (.cons .here rfl (.cons .here rfl .nil)) ?_
   refine va 0 rfl (Val.fieldAddr rfl fld_41_2) rfl rfl rfl (.cons .here rfl (.cons .here rfl .nil)) rfl ?_
   refine va 1 rfl (Val.load_one rfl (.tail _ (.head _)) ty_38 rfl) rfl rfl rfl (.cons .here rfl (.cons .here rfl .nil)) rfl ?_
   refine va 2 rfl (Val.pure rfl) rfl rfl rfl (.cons .here rfl (.cons .here rfl .nil)) rfl ?_
   refine va 3 rfl (Val.indexAddr_slp rfl rfl sl_38 (by omega) (by omega) (Sl.ptrM hR.shares hk)) rfl rfl rfl (.cons .here rfl (.cons .here rfl .nil)) rfl ?_
   refine va 4 rfl (Val.load_gen rfl (fun w hm => Sl.loadM1 hR.shares (by decide) hm (by simp) ty_31 hk (v := x.v) (by simp [SA.cell, hx]))) rfl rfl rfl (.cons .here rfl (.cons .here rfl .nil)) rfl ?_
   refine va 5 rfl (Val.fieldAddr rfl fld_41_2) rfl rfl rfl (.cons .here rfl (.cons .here rfl .nil)) rfl ?_
   refine va 6 rfl (Val.load_one rfl (.head _) ty_38 rfl) rfl rfl rfl (.cons .here rfl (.cons .here rfl .nil)) rfl ?_
   refine va 7 rfl (Val.pure rfl) rfl rfl rfl (.cons .here rfl (.cons .here rfl .nil)) rfl ?_
   refine va 8 rfl (Val.indexAddr_slp rfl rfl sl_38 (by omega) (by omega) (Sl.ptrM hQ.shares hk2)) rfl rfl rfl (.cons .here rfl (.cons .here rfl .nil)) rfl ?_
   refine va 9 rfl (Val.load_gen rfl (fun w hm => Sl.loadM1 hQ.shares (by decide) hm (by simp) ty_31 hk2 (v := y.v) (by simp [SA.cell, hy]))) rfl rfl rfl (.cons .here rfl (.cons .here rfl .nil)) rfl ?_
   refine RunA.toB (by kernel_rfl) ?_
   refine RunB.one (i := 10) (by kernel_rfl) ?_
   refine RunI.callP rfl (isCall_func rfl ent_51) rfl rfl rfl (fun w hm => (rsameInts_calls x y w ((hR.rows x hxm).mono0 (by decide) hm) ((hQ.rows y hym).mono0 (by decide) hm) (by have := s4 x hxm; omega) (by have := u4 y hym; omega))) (RunK.toB ?_)
   refine RunB.one (i := 11) (by kernel_rfl) ?_
   refine RunI.val rfl (Val.pure rfl) rfl rfl rfl (RunK.toB ?_)
   refine RunB.done (by kernel_rfl) ?_
   refine st ?_
   refine cn rfl ?_ ?_
   ·intro c4'
    refine st ?_
    refine RunC.ret ?_
    refine RunE.block_ret ?_
    refine RunE.pass_ret ?_
    refine RunE.pass_ret ?_
    refine RunE.block_ret ?_
    refine RunE.pass_ret ?_
    exact RunE.retP (.r1 rfl (.tmp rfl)) (by first | (rw [ry_same f1 f2 f3]; rfl) | (rw [ry_ne3 (show r.pl.reports ≠ q.pl.reports from ne_at hk hk2 hx hy (by rintro rfl; simp_all))]; done) | (rw [ry_ne2 (show r.pl.shares ≠ q.pl.shares from mapT_ne hk hk2 hx hy (by simp_all))]; done) | (rw [ry_ne1 (show r.pl.terms ≠ q.pl.terms from ne_at hk hk2 hx hy (by rintro rfl; simp_all))]; done) | (refine congrArg Value.bool (decide_eq_false fun e => ?_).symm; have d1 : r.terms.l.length = q.terms.l.length := congrArg (fun z : Ry => z.terms.length) e; have d2 : r.pl.shares.length = q.pl.shares.length := congrArg (fun z : Ry => z.shares.length) e; have d3 : r.reports.l.length = q.reports.l.length := congrArg (fun z : Ry => z.reports.length) e; simp only [RyA.pl, List.length_map] at d2; simp_all; done))
   intro c4'
   refine st ?_
   refine lv (Val.add rfl rfl (IntWalk.i64_in _ ⟨by omega, by omega⟩)) ?_
   exact RunE.round (by omega) (mapT_step hk hk2 hx hy kI (by simp_all)) rfl (Sub.consE (t := 6) rfl rfl (Sub.cons (t := 2) rfl (Sub.cons (t := 3) rfl (Sub.nil _)))) (.cons .here rfl (.cons .here rfl .nil))
  intro c3'
  obtain rfl : k = r.shares.l.length := by omega
  have f2 : r.pl.shares = q.pl.shares := eq_end (show (r.shares.l.map (·.l)).length = (q.shares.l.map (·.l)).length by simp only [List.length_map]; omega) (by show List.take (r.shares.l.map (·.l)).length (r.shares.l.map (·.l)) = List.take (r.shares.l.map (·.l)).length (q.shares.l.map (·.l)); rw [List.length_map]; exact kI)
  clear kI kN
  refine RunC.exit ?_
  refine RunE.pass_exit ?_
  refine RunE.pass_exit ?_
  refine RunE.block_here ?_
  refine st ?_
  refine RunC.loopK (r.reports.l.length) (fun k q => (7, .int .i64 (k : Int)) :: q) (fun _ => _) (fun _ => []) (fun k => r.reports.l.take k = q.reports.l.take k) (by simp) rfl (Sub.consE (t := 7) rfl rfl (Sub.cons (t := 2) rfl (Sub.cons (t := 3) rfl (Sub.nil _)))) (.cons .here rfl (.cons .here rfl .nil)) ?_
  intro k kN kI
  refine st ?_
  refine lv (Val.fieldAddr rfl fld_41_3) ?_
  refine lv (Val.load_one rfl (.tail _ (.head _)) ty_39 rfl) ?_
  refine lv (Val.len_sl rfl sl_39) ?_
  refine cn rfl ?_ ?_
  ·intro c5'
   have hk : k < r.reports.l.length := by omega
   have hk2 : k < q.reports.l.length := by omega
   obtain ⟨x, hx⟩ : ∃ x, r.reports.l[k] = x := ⟨_, rfl⟩
   obtain ⟨y, hy⟩ : ∃ y, q.reports.l[k] = y := ⟨_, rfl⟩
   refine st ?_
   refine RunC.draw 10 fol_ (.cons .here rfl (.cons .here rfl .nil)) ?_
   refine va 0 rfl (Val.fieldAddr rfl fld_41_3) rfl rfl rfl (.cons .here rfl (.cons .here rfl .nil)) rfl ?_
   refine va 1 rfl (Val.load_one rfl (.tail _ (.head _)) ty_39 rfl) rfl rfl rfl (.cons .here rfl (.cons .here rfl .nil)) rfl ?_
   refine va 2 rfl (Val.pure rfl) rfl rfl rfl (.cons .here rfl (.cons .here rfl .nil)) rfl ?_
   refine va 3 rfl (Val.indexAddr_slp rfl rfl sl_39 (by omega) (by omega) (Sl.ptrM hR.reports hk)) rfl rfl rfl (.cons .here rfl (.cons .here rfl .nil)) rfl ?_
   refine va 4 rfl (Val.load_gen rfl (fun w hm => Sl.loadX hR.reports (by decide) hm (by simp) ty_76 hk hx)) rfl rfl rfl (.cons .here rfl (.cons .here rfl .nil)) rfl ?_
   refine va 5 rfl (Val.fieldAddr rfl fld_41_3) rfl rfl rfl (.cons .here rfl (.cons .here rfl .nil)) rfl ?_
   refine va 6 rfl (Val.load_one rfl (.head _) ty_39 rfl) rfl rfl rfl (.cons .here rfl (.cons .here rfl .nil)) rfl ?_
   refine va 7 rfl (Val.pure rfl) rfl rfl rfl (.cons .here rfl (.cons .here rfl .nil)) rfl ?_
   refine va 8 rfl (Val.indexAddr_slp rfl rfl sl_39 (by omega) (by omega) (Sl.ptrM hQ.reports hk2)) rfl rfl rfl (.cons .here rfl (.cons .here rfl .nil)) rfl ?_
   refine va 9 rfl (Val.load_gen rfl (fun w hm => Sl.loadX hQ.reports (by decide) hm (by simp) ty_76 hk2 hy)) rfl rfl rfl (.cons .here rfl (.cons .here rfl .nil)) rfl ?_
   refine RunA.toB (by kernel_rfl) ?_
   refine RunB.one (i := 10) (by kernel_rfl) ?_
   refine RunI.val rfl (Val.neq_flat rfl rfl eqB_76 (kl_76 _ _ _ _ _ _ _ _ )) rfl rfl rfl (RunK.toB ?_)
   refine RunB.done (by kernel_rfl) ?_
   refine st ?_
   refine cn rfl ?_ ?_
   ·intro c6'
    refine st ?_
    refine RunC.ret ?_
    refine RunE.block_ret ?_
    refine RunE.pass_ret ?_
    refine RunE.pass_ret ?_
    refine RunE.block_ret ?_
    refine RunE.pass_ret ?_
    exact RunE.retP (.r1 rfl (.tmp rfl)) (by first | (rw [ry_same f1 f2 f3]; rfl) | (rw [ry_ne3 (show r.pl.reports ≠ q.pl.reports from ne_at hk hk2 hx hy (by rintro rfl; simp_all))]; done) | (rw [ry_ne2 (show r.pl.shares ≠ q.pl.shares from mapT_ne hk hk2 hx hy (by simp_all))]; done) | (rw [ry_ne1 (show r.pl.terms ≠ q.pl.terms from ne_at hk hk2 hx hy (by rintro rfl; simp_all))]; done) | (refine congrArg Value.bool (decide_eq_false fun e => ?_).symm; have d1 : r.terms.l.length = q.terms.l.length := congrArg (fun z : Ry => z.terms.length) e; have d2 : r.pl.shares.length = q.pl.shares.length := congrArg (fun z : Ry => z.shares.length) e; have d3 : r.reports.l.length = q.reports.l.length := congrArg (fun z : Ry => z.reports.length) e; simp only [RyA.pl, List.length_map] at d2; simp_all; done))
   intro c6'
   refine st ?_
   refine lv (Val.add rfl rfl (IntWalk.i64_in _ ⟨by omega, by omega⟩)) ?_
   exact RunE.round (by omega) (eqT_step hk hk2 hx hy kI (by cases x; cases y; simp_all)) rfl (Sub.consE (t := 7) rfl rfl (Sub.cons (t := 2) rfl (Sub.cons (t := 3) rfl (Sub.nil _)))) (.cons .here rfl (.cons .here rfl .nil))
  intro c5'
  obtain rfl : k = r.reports.l.length := by omega
  have f3 : r.pl.reports = q.pl.reports := eq_end e3 kI
  refine RunC.exit ?_
  refine RunE.pass_exit ?_
  refine RunE.pass_exit ?_
  refine RunE.block_here ?_
  refine st ?_
  refine lv (Val.fieldAddr rfl fld_41_1) ?_
  refine lv (Val.load_one rfl (.tail _ (.head _)) ty_31 rfl) ?_
  refine lv (Val.fieldAddr rfl fld_41_1) ?_
  refine lv (Val.load_one rfl (.head _) ty_31 rfl) ?_
  refine RunL.callP (isCall_func rfl ent_51) rfl rfl rfl (fun w hm => (rsameInts_calls r.prices q.prices w (hR.prices.mono0 (by decide) hm) (hQ.prices.mono0 (by decide) hm) (by omega) (by omega))) ?_
  refine st ?_
  refine RunL.andPart (dj := 93) (dp := 99) 6 rfl (fun g93 => by
    have g93' := g93
    try simp only [nH] at g93'
    refine lv (Val.fieldAddr rfl fld_41_4) ?_
    refine lv (Val.load_one rfl (.tail _ (.head _)) ty_31 rfl) ?_
    refine lv (Val.fieldAddr rfl fld_41_4) ?_
    refine lv (Val.load_one rfl (.head _) ty_31 rfl) ?_
    refine RunL.callP (isCall_func rfl ent_51) rfl rfl rfl (fun w hm => (rsameInts_calls r.paid q.paid w (hR.paid.mono0 (by decide) hm) (hQ.paid.mono0 (by decide) hm) (by omega) (by omega))) ?_
    refine sv ?_
    exact RunL.segEnd (Sub.cons rfl (Sub.skip rfl (Sub.skip rfl (Sub.skip rfl (Sub.skip rfl (Sub.skip rfl (Sub.skip rfl (Sub.same rfl (by rw [g93]) (Sub.refl _))))))))) (List.Sublist.refl _)
  ) (fun g93 => by
    have g93' := g93
    try simp only [nH] at g93'
    iterate 5 refine RunL.no rfl rfl rfl ?_
    refine sv ?_
    exact RunL.segEnd (Sub.cons rfl (Sub.skip rfl (Sub.skip rfl (Sub.skip rfl (Sub.skip rfl (Sub.skip rfl (Sub.skip rfl (Sub.same rfl (by rw [g93]) (Sub.refl _))))))))) (List.Sublist.refl _)
  ) ?_
  refine st ?_
  refine RunC.ret ?_
  exact RunE.retP (.r1 rfl (.tmp rfl)) (by first | (rw [ry_same f1 f2 f3]; rfl) | (rw [ry_ne3 (show r.pl.reports ≠ q.pl.reports from ne_at hk hk2 hx hy (by rintro rfl; simp_all))]; done) | (rw [ry_ne2 (show r.pl.shares ≠ q.pl.shares from mapT_ne hk hk2 hx hy (by simp_all))]; done) | (rw [ry_ne1 (show r.pl.terms ≠ q.pl.terms from ne_at hk hk2 hx hy (by rintro rfl; simp_all))]; done) | (refine congrArg Value.bool (decide_eq_false fun e => ?_).symm; have d1 : r.terms.l.length = q.terms.l.length := congrArg (fun z : Ry => z.terms.length) e; have d2 : r.pl.shares.length = q.pl.shares.length := congrArg (fun z : Ry => z.shares.length) e; have d3 : r.reports.l.length = q.reports.l.length := congrArg (fun z : Ry => z.reports.length) e; simp only [RyA.pl, List.length_map] at d2; simp_all; done))
end Go.Proofs.YtleamcmljcdapabGreatDoor
namespace Go.Bk
open Go Go.Eng Go.RowKit
def len0 (t : Tr) (c : Cb) (p : Ps) : Int := [(t.ways.length : Int), (t.stay.length : Int), (t.light.length : Int), (c.homes.length : Int), (c.loans.length : Int), (p.cards.length : Int)].foldl Max.max (t.fr.length : Int)
def len1 (t : Tr) (c : Cb) (r : Ry) (p : Ps) : Int := [(r.terms.length : Int), (r.paid.length : Int), (r.prices.length : Int), (r.shares.length : Int), (r.reports.length : Int)].foldl Max.max (len0 t c p)
def len2 {α : Type} (n : Int) (l : List (List α)) : Int := l.foldl (fun n x => Max.max n (x.length : Int)) n
theorem len2_s {α : Type} {n : Int} {l : List (List α)} {k : Nat} (hk : k < l.length) {x : List α} (hx : l[k] = x) : len2 n (l.take (k + 1)) = Max.max (len2 n (l.take k)) (x.length : Int) := by
  unfold len2
  rw [List.take_succ_eq_append_getElem hk, List.foldl_append, hx]
  rfl
theorem len2_le {α : Type} : ∀ (l : List (List α)) (n : Int), n ≤ len2 n l ∧ ∀ x ∈ l, (x.length : Int) ≤ len2 n l
  | [], n => ⟨Int.le_refl _, fun x h => by cases h⟩
  | y :: l, n => by
    obtain ⟨h1, h2⟩ := len2_le l (Max.max n (y.length : Int))
    have e : len2 n (y :: l) = len2 (Max.max n (y.length : Int)) l := rfl
    rw [e]
    refine ⟨by omega, fun x hx => ?_⟩
    rcases List.mem_cons.1 hx with rfl | hx
    · omega
    · exact h2 x hx
def lenX (t : Tr) (c : Cb) (r : Ry) (p : Ps) : Int := len2 (len2 (len1 t c r p) t.ways) r.shares
def greatX (t : Tr) (c : Cb) (r : Ry) (p : Ps) : Bool := decide (40 < lenX t c r p)
structure Few (t : Tr) (c : Cb) (r : Ry) (p : Ps) : Prop where
  fr : t.fr.length ≤ 40
  ways : t.ways.length ≤ 40
  rows : ∀ x ∈ t.ways, x.length ≤ 40
  stay : t.stay.length ≤ 40
  light : t.light.length ≤ 40
  homes : c.homes.length ≤ 40
  loans : c.loans.length ≤ 40
  cards : p.cards.length ≤ 40
  terms : r.terms.length ≤ 40
  paid : r.paid.length ≤ 40
  prices : r.prices.length ≤ 40
  shares : r.shares.length ≤ 40
  srows : ∀ x ∈ r.shares, x.length ≤ 40
  reports : r.reports.length ≤ 40
theorem few_of {t : Tr} {c : Cb} {r : Ry} {p : Ps} (h : greatX t c r p = false) : Few t c r p := by
  have h0 : lenX t c r p ≤ 40 := by have := of_decide_eq_false h; omega
  have h3 := len2_le r.shares (len2 (len1 t c r p) t.ways)
  have h2 := len2_le t.ways (len1 t c r p)
  have h1 := fold_max [(r.terms.length : Int), (r.paid.length : Int), (r.prices.length : Int), (r.shares.length : Int), (r.reports.length : Int)] (len0 t c p)
  have h4 := fold_max [(t.ways.length : Int), (t.stay.length : Int), (t.light.length : Int), (c.homes.length : Int), (c.loans.length : Int), (p.cards.length : Int)] (t.fr.length : Int)
  change _ ≤ lenX t c r p ∧ ∀ x ∈ r.shares, _ ≤ lenX t c r p at h3
  change _ ≤ len1 t c r p ∧ ∀ q ∈ _, q ≤ len1 t c r p at h1
  change _ ≤ len0 t c p ∧ ∀ q ∈ _, q ≤ len0 t c p at h4
  have m1 := h1.2
  have m4 := h4.2
  simp only [List.mem_cons, List.not_mem_nil, or_false, forall_eq_or_imp, forall_eq] at m1 m4
  refine ⟨?_, ?_, fun x hx => ?_, ?_, ?_, ?_, ?_, ?_, ?_, ?_, ?_, ?_, fun x hx => ?_, ?_⟩
  case refine_3 => have := h2.2 x hx; omega
  case refine_13 => have := h3.2 x hx; omega
  all_goals omega
/-! ### The examples -/
def exT : Tr := ⟨360, [⟨30, 40⟩, ⟨20, 20⟩, ⟨60, 70⟩], [[⟨0, 0⟩, ⟨15, 20⟩, ⟨45, 50⟩], [⟨15, 20⟩, ⟨0, 0⟩, ⟨30, 35⟩], [⟨45, 50⟩, ⟨30, 35⟩, ⟨0, 0⟩]], [⟨10, 15⟩, ⟨20, 20⟩, ⟨5, 10⟩], [⟨420, 480⟩, ⟨380, 600⟩, ⟨500, 540⟩]⟩
def exC : Cb := ⟨4, [0, 1, 2], 1, [⟨0, 0, 0, 0⟩, ⟨0, 1, 1, 0⟩, ⟨1, 0, 0, 0⟩, ⟨1, 1, 1, 0⟩, ⟨2, 0, 0, 1⟩]⟩
def exR : Ry := ⟨[⟨20, 3, 30⟩, ⟨25, 12, 25⟩], [99], [[334, 333, 333]], [⟨0, 0, 0, 5⟩, ⟨1, 0, 4, 7⟩], [0, 0]⟩
def exP : Ps := ⟨[⟨⟨100, 101⟩, ⟨500, 505⟩, 0⟩], ⟨3, 5⟩, ⟨10, 20⟩⟩
theorem exT_ok : tourX exT = true := by decide
theorem exC_ok : cabX exC = true := by decide
theorem exR_ok : royalX exR = true := by decide
theorem exP_ok : printsX exP = true := by decide
def dig (u : Nat) : Str := if u < 10 then [UInt8.ofNat (48 + u)] else if u < 100 then [UInt8.ofNat (48 + u / 10), UInt8.ofNat (48 + u % 10)] else [UInt8.ofNat (48 + u / 100), UInt8.ofNat (48 + u / 10 % 10), UInt8.ofNat (48 + u % 10)]
theorem dig_dec {u : Nat} (h : u < 1000) : Lib.decDigits u = dig u := by
  unfold dig
  split
  · rw [Lib.decDigits, dif_pos (by assumption)]
  · rename_i h1
    rw [Lib.decDigits, dif_neg h1]
    split
    · rw [Lib.decDigits, dif_pos (by omega)]
      rfl
    · rw [Lib.decDigits, dif_neg (by omega), Lib.decDigits, dif_pos (by omega)]
      have e : u / 10 / 10 = u / 100 := by omega
      rw [e]
      rfl
theorem itoa_dig {n : Int} (h : 0 ≤ n) (h2 : n < 1000) : Lib.itoa n = dig n.toNat := by
  unfold Lib.itoa
  rw [if_neg (by omega), dig_dec (by omega)]
def exTS : Str := [116, 111, 117, 114, 32, 51, 54, 48, 10, 102, 114, 111, 109, 32, 51, 48, 46, 46, 52, 48, 32, 50, 48, 46, 46, 50, 48, 32, 54, 48, 46, 46, 55, 48, 10, 119, 97, 121, 115, 32, 48, 46, 46, 48, 32, 49, 53, 46, 46, 50, 48, 32, 52, 53, 46, 46, 53, 48, 10, 119, 97, 121, 115, 32, 49, 53, 46, 46, 50, 48, 32, 48, 46, 46, 48, 32, 51, 48, 46, 46, 51, 53, 10, 119, 97, 121, 115, 32, 52, 53, 46, 46, 53, 48, 32, 51, 48, 46, 46, 51, 53, 32, 48, 46, 46, 48, 10, 115, 116, 97, 121, 32, 49, 48, 46, 46, 49, 53, 32, 50, 48, 46, 46, 50, 48, 32, 53, 46, 46, 49, 48, 10, 108, 105, 103, 104, 116, 32, 52, 50, 48, 46, 46, 52, 56, 48, 32, 51, 56, 48, 46, 46, 54, 48, 48, 32, 53, 48, 48, 46, 46, 53, 52, 48, 10]
def exCS : Str := [99, 97, 98, 105, 110, 101, 116, 32, 52, 32, 49, 10, 104, 111, 109, 101, 115, 32, 48, 32, 49, 32, 50, 10, 116, 97, 107, 101, 32, 48, 32, 48, 10, 116, 97, 107, 101, 32, 49, 32, 49, 10, 98, 97, 99, 107, 32, 48, 32, 48, 10, 98, 97, 99, 107, 32, 49, 32, 49, 10, 108, 111, 111, 107, 32, 49, 32, 48, 10]
def exRS : Str := [114, 111, 121, 97, 108, 10, 97, 103, 101, 110, 116, 32, 50, 48, 32, 51, 32, 51, 48, 32, 48, 10, 97, 103, 101, 110, 116, 32, 50, 53, 32, 49, 50, 32, 50, 53, 32, 48, 10, 107, 105, 110, 100, 32, 57, 57, 32, 51, 51, 52, 32, 51, 51, 51, 32, 51, 51, 51, 10, 114, 101, 112, 111, 114, 116, 32, 48, 32, 48, 32, 48, 32, 53, 10, 114, 101, 112, 111, 114, 116, 32, 49, 32, 48, 32, 52, 32, 55, 10]
def exPS : Str := [80, 1, 0, 100, 0, 1, 1, 244, 0, 5, 0, 0, 0, 3, 0, 2, 0, 10, 0, 10, 29, 39]
set_option maxRecDepth 10000 in
theorem exT_text : tourS exT = exTS := by
  simp (config := { decide := true }) only [tourS, exT, rowS, lineS, spS, List.map_cons, List.map_nil, itoa_dig]
  try rfl
theorem exC_text : cabS exC = exCS := by
  simp (config := { decide := true }) only [cabS, exC, loanS, lineS, List.map_cons, List.map_nil, itoa_dig, if_true, if_false]
theorem exR_text : royalS exR = exRS := by
  simp (config := { decide := true }) only [royalS, exR, agentS, kindS, reportS, lineS, List.map_cons, List.map_nil, List.zip_cons_cons, List.zip_nil_right, itoa_dig]
theorem exP_bytes : psS exP = exPS := by decide
theorem ndec {p : Prop} [Decidable p] (h : p) : (!decide p) = false := by simp [h]
set_option maxRecDepth 10000 in
theorem exT_len : exTS.length = 165 := rfl
set_option maxRecDepth 10000 in
theorem exC_len : exCS.length = 69 := rfl
set_option maxRecDepth 10000 in
theorem exR_len : exRS.length = 89 := rfl
theorem exT_read : readX tourStep zeroT tourX tourS exTS = .ok exT := readX_ok parse_tour exT_ok exT_text (by rw [exT_len]; decide)
theorem exC_read : readX cabStep zeroC cabX cabS exCS = .ok exC := readX_ok parse_cab exC_ok exC_text (by rw [exC_len]; decide)
theorem exR_read : readX royStep zeroR royalX royalS exRS = .ok exR := readX_ok parse_roy exR_ok exR_text (by rw [exR_len]; decide)
theorem exP_read : readPs exPS = .ok exP := by rw [← exP_bytes]; exact readPs_ok exP_ok
end Go.Bk
namespace Go.Proofs.YtleamcmljcdapabGreatDoor
open Go Go.Eng Go.Bk Go.RowKit

theorem rsameBytes_calls (s u : SA UInt8) (W : World) (hS : s.ok byC 1 W) (hU : u.ok byC 1 W) : Calls Tryz.prog 20 #[s.v, u.v] W (Pure (.bool (decide (s.l = u.l))) W) := by
  refine calls_start Tryz.func20 rfl rfl ?_
  refine st ?_
  refine lv (Val.bytesStr rfl sls_22 und_5 und_9 (fun w hm => hS.mono0 (by decide) hm)) ?_
  refine lv (Val.bytesStr rfl sls_22 und_5 und_9 (fun w hm => hU.mono0 (by decide) hm)) ?_
  refine lv (Val.eqlStr rfl rfl) ?_
  refine RunC.ret ?_
  exact RunE.retP (.r1 rfl (.tmp rfl)) (by first | rfl | simp)
theorem great_calls (t : TrA) (c : CbA) (r : RyA) (p : PsA) (W : World) (hT : TrOk W t) (hR : RyOk W r) (hn1 : t.ways.l.length ≤ 9223372036854775807) (hn2 : r.shares.l.length ≤ 9223372036854775807) : Calls Tryz.prog 22 #[t.v, c.v, r.v, p.v] W (Pure (.bool (greatX t.pl c.pl r.pl p.pl)) W) := by
  have e1 : t.pl.ways.length = t.ways.l.length := by simp [TrA.pl]
  have e2 : r.pl.shares.length = r.shares.l.length := by simp [RyA.pl]
  have f0 : len0 t.pl c.pl p.pl = [(t.ways.l.length : Int), (t.stay.l.length : Int), (t.light.l.length : Int), (c.homes.l.length : Int), (c.loans.l.length : Int), (p.cards.l.length : Int)].foldl Max.max (t.fr.l.length : Int) := by unfold len0; rw [e1]; rfl
  have f1 : len1 t.pl c.pl r.pl p.pl = [(r.terms.l.length : Int), (r.paid.l.length : Int), (r.prices.l.length : Int), (r.shares.l.length : Int), (r.reports.l.length : Int)].foldl Max.max (len0 t.pl c.pl p.pl) := by unfold len1; rw [e2]; rfl
  refine calls_start Tryz.func22 rfl rfl ?_
  refine st ?_
  refine RunL.new (New.box rfl) rfl rfl rfl (fun b4 => ?_)
  refine RunL.new (New.box rfl) rfl rfl rfl (fun b5 => ?_)
  refine RunL.new (New.box rfl) rfl rfl rfl (fun b6 => ?_)
  refine RunL.new (New.box rfl) rfl rfl rfl (fun b7 => ?_)
  refine st ?_
  refine lv (Val.fieldAddr rfl fld_27_1) ?_
  refine lv (Val.load_one rfl (.tail _ (.tail _ (.tail _ (.head _)))) ty_24 rfl) ?_
  refine lv (Val.len_sl rfl sl_24) ?_
  refine lv (Val.fieldAddr rfl fld_27_2) ?_
  refine lv (Val.load_one rfl (.tail _ (.tail _ (.tail _ (.head _)))) ty_25 rfl) ?_
  refine lv (Val.len_sl rfl sl_25) ?_
  refine lv (Val.fieldAddr rfl fld_27_3) ?_
  refine lv (Val.load_one rfl (.tail _ (.tail _ (.tail _ (.head _)))) ty_24 rfl) ?_
  refine lv (Val.len_sl rfl sl_24) ?_
  refine lv (Val.fieldAddr rfl fld_27_4) ?_
  refine lv (Val.load_one rfl (.tail _ (.tail _ (.tail _ (.head _)))) ty_24 rfl) ?_
  refine lv (Val.len_sl rfl sl_24) ?_
  refine lv (Val.fieldAddr rfl fld_34_1) ?_
  refine lv (Val.load_one rfl (.tail _ (.tail _ (.head _))) ty_31 rfl) ?_
  refine lv (Val.len_sl rfl sl_31) ?_
  refine lv (Val.fieldAddr rfl fld_34_3) ?_
  refine lv (Val.load_one rfl (.tail _ (.tail _ (.head _))) ty_32 rfl) ?_
  refine lv (Val.len_sl rfl sl_32) ?_
  refine lv (Val.fieldAddr rfl fld_48_0) ?_
  refine lv (Val.load_one rfl (.head _) ty_44 rfl) ?_
  refine lv (Val.len_sl rfl sl_44) ?_
  refine RunL.val (Val.maxN (qs := [(t.ways.l.length : Int), (t.stay.l.length : Int), (t.light.l.length : Int), (c.homes.l.length : Int), (c.loans.l.length : Int), (p.cards.l.length : Int)]) rfl rfl) rfl rfl rfl ?_
  refine vp rfl rfl rfl rfl ?_
  refine nsr ?_
  rw [← f0]
  refine st ?_
  refine lv (Val.fieldAddr rfl fld_41_0) ?_
  refine lv (Val.load_one rfl (.tail _ (.head _)) ty_37 rfl) ?_
  refine lv (Val.len_sl rfl sl_37) ?_
  refine lv (Val.fieldAddr rfl fld_41_4) ?_
  refine lv (Val.load_one rfl (.tail _ (.head _)) ty_31 rfl) ?_
  refine lv (Val.len_sl rfl sl_31) ?_
  refine lv (Val.fieldAddr rfl fld_41_1) ?_
  refine lv (Val.load_one rfl (.tail _ (.head _)) ty_31 rfl) ?_
  refine lv (Val.len_sl rfl sl_31) ?_
  refine lv (Val.fieldAddr rfl fld_41_2) ?_
  refine lv (Val.load_one rfl (.tail _ (.head _)) ty_38 rfl) ?_
  refine lv (Val.len_sl rfl sl_38) ?_
  refine lv (Val.fieldAddr rfl fld_41_3) ?_
  refine lv (Val.load_one rfl (.tail _ (.head _)) ty_39 rfl) ?_
  refine lv (Val.len_sl rfl sl_39) ?_
  refine RunL.val (Val.maxN (qs := [(r.terms.l.length : Int), (r.paid.l.length : Int), (r.prices.l.length : Int), (r.shares.l.length : Int), (r.reports.l.length : Int)]) rfl rfl) rfl rfl rfl ?_
  refine vp rfl rfl rfl rfl ?_
  refine nnx ?_
  refine RunC.seq ?_
  refine csr ?_
  rw [← f1]
  refine lv (Val.fieldAddr rfl fld_27_2) ?_
  refine lv (Val.load_one rfl (.tail _ (.tail _ (.tail _ (.head _)))) ty_25 rfl) ?_
  refine lv (Val.len_sl rfl sl_25) ?_
  refine RunC.loopK (t.ways.l.length) (fun k q => (56, .int .i64 (k : Int)) :: (9, .int .i64 (len2 (len1 t.pl c.pl r.pl p.pl) (t.pl.ways.take k))) :: q) (fun _ => _) (fun _ => []) (fun _ => True) trivial rfl (Sub.consE (t := 56) rfl rfl (Sub.consE (t := 9) rfl (by rfl) (Sub.cons (t := 4) rfl (Sub.cons (t := 5) rfl (Sub.cons (t := 6) rfl (Sub.cons (t := 7) rfl (Sub.cons (t := 54) rfl (Sub.cons (t := 55) rfl (Sub.nil _))))))))) (.cons .here rfl (.cons .here rfl (.cons .here rfl (.cons .here rfl .nil)))) ?_
  intro k kN kI
  clear kI
  refine st ?_
  refine cn rfl ?_ ?_
  ·intro c0'
   have hk : k < t.ways.l.length := by omega
   obtain ⟨x, hx⟩ : ∃ x, t.ways.l[k] = x := ⟨_, rfl⟩
   refine st ?_
   refine lv (Val.indexAddr_slp rfl rfl sl_25 (by omega) (by omega) (Sl.ptrM hT.ways hk)) ?_
   refine lv (Val.load_gen rfl (fun w hm => Sl.loadM1 hT.ways (by decide) hm (by simp) ty_24 hk (v := x.v) (by simp [SA.cell, hx]))) ?_
   refine lv (Val.len_sl rfl sl_24) ?_
   refine lv (Val.max rfl rfl) ?_
   refine lv (Val.add rfl rfl (IntWalk.i64_in _ ⟨by omega, by omega⟩)) ?_
   exact RunE.round (by omega) trivial rfl (Sub.consE (t := 56) rfl rfl (Sub.consE (t := 9) rfl (by rw [len2_s (x := x.l) (by rw [e1]; exact hk) (by simp [TrA.pl, hx])]) (Sub.cons (t := 4) rfl (Sub.cons (t := 5) rfl (Sub.cons (t := 6) rfl (Sub.cons (t := 7) rfl (Sub.cons (t := 54) rfl (Sub.cons (t := 55) rfl (Sub.nil _))))))))) (.cons .here rfl (.cons .here rfl (.cons .here rfl (.cons .here rfl .nil))))
  intro c0'
  obtain rfl : k = t.ways.l.length := by omega
  have g1 : len2 (len1 t.pl c.pl r.pl p.pl) (t.pl.ways.take t.ways.l.length) = len2 (len1 t.pl c.pl r.pl p.pl) t.pl.ways := by rw [← e1, List.take_length]
  rw [g1]
  refine RunC.exit ?_
  refine RunE.pass_exit ?_
  refine RunE.pass_exit ?_
  refine RunE.block_here ?_
  refine st ?_
  refine lv (Val.fieldAddr rfl fld_41_2) ?_
  refine lv (Val.load_one rfl (.tail _ (.head _)) ty_38 rfl) ?_
  refine lv (Val.len_sl rfl sl_38) ?_
  refine RunC.loopK (r.shares.l.length) (fun k q => (68, .int .i64 (k : Int)) :: (9, .int .i64 (len2 (len2 (len1 t.pl c.pl r.pl p.pl) t.pl.ways) (r.pl.shares.take k))) :: q) (fun _ => _) (fun _ => []) (fun _ => True) trivial rfl (Sub.consE (t := 68) rfl rfl (Sub.consE (t := 9) rfl (by rfl) (Sub.cons (t := 4) rfl (Sub.cons (t := 5) rfl (Sub.cons (t := 6) rfl (Sub.cons (t := 7) rfl (Sub.cons (t := 66) rfl (Sub.cons (t := 67) rfl (Sub.nil _))))))))) (.cons .here rfl (.cons .here rfl (.cons .here rfl (.cons .here rfl .nil)))) ?_
  intro k kN kI
  clear kI
  refine st ?_
  refine cn rfl ?_ ?_
  ·intro c1'
   have hk : k < r.shares.l.length := by omega
   obtain ⟨x, hx⟩ : ∃ x, r.shares.l[k] = x := ⟨_, rfl⟩
   refine st ?_
   refine lv (Val.indexAddr_slp rfl rfl sl_38 (by omega) (by omega) (Sl.ptrM hR.shares hk)) ?_
   refine lv (Val.load_gen rfl (fun w hm => Sl.loadM1 hR.shares (by decide) hm (by simp) ty_31 hk (v := x.v) (by simp [SA.cell, hx]))) ?_
   refine lv (Val.len_sl rfl sl_31) ?_
   refine lv (Val.max rfl rfl) ?_
   refine lv (Val.add rfl rfl (IntWalk.i64_in _ ⟨by omega, by omega⟩)) ?_
   exact RunE.round (by omega) trivial rfl (Sub.consE (t := 68) rfl rfl (Sub.consE (t := 9) rfl (by rw [len2_s (x := x.l) (by rw [e2]; exact hk) (by simp [RyA.pl, hx])]) (Sub.cons (t := 4) rfl (Sub.cons (t := 5) rfl (Sub.cons (t := 6) rfl (Sub.cons (t := 7) rfl (Sub.cons (t := 66) rfl (Sub.cons (t := 67) rfl (Sub.nil _))))))))) (.cons .here rfl (.cons .here rfl (.cons .here rfl (.cons .here rfl .nil))))
  intro c1'
  obtain rfl : k = r.shares.l.length := by omega
  refine RunC.exit ?_
  refine RunE.pass_exit ?_
  refine RunE.pass_exit ?_
  refine RunE.block_here ?_
  refine st ?_
  refine RunC.ret ?_
  exact RunE.retP (.r1 rfl (.tmp rfl)) (by unfold greatX lenX; rw [show List.take r.shares.l.length r.pl.shares = r.pl.shares by rw [← e2, List.take_length]])
theorem lspan_calls (a b : Int) (W : World) : Calls Tryz.prog 24 #[.int .i64 a, .int .i64 b] W (Pure (.agg #[.int .i64 a, .int .i64 b]) W) := by
  refine calls_start Tryz.func24 rfl rfl ?_
  refine st ?_
  refine RunL.new (New.alloc zero_46) rfl rfl rfl (fun b4 => ?_)
  refine st ?_
  refine lv (Val.build (parts := [(0, .tmp 5), (1, .tmp 6)]) rfl zero_46 places_46 rfl) ?_
  refine RunL.sto (Sto.store rfl rfl .here ty_46 rfl rfl) rfl rfl ?_
  refine st ?_
  refine RunC.ret ?_
  exact RunE.retP (.r1 rfl (.agg rfl (.head _) ty_46 rfl)) (by first | rfl | simp)
end Go.Proofs.YtleamcmljcdapabGreatDoor
namespace Go.Proofs.YtleamcmljcdapabGreatDoor
open Go Go.Eng
theorem ent_24 : Enters Tryz.prog 24 := enters_of Tryz.func24 (by kernel_rfl) rfl
theorem places_27 : placesB Tryz.prog 27 = some [(0, 1), (1, 1), (2, 1), (3, 1), (4, 1)] := by kernel_rfl
theorem places_34 : placesB Tryz.prog 34 = some [(0, 1), (1, 1), (2, 1), (3, 1)] := by kernel_rfl
theorem places_41 : placesB Tryz.prog 41 = some [(0, 1), (1, 1), (2, 1), (3, 1), (4, 1)] := by kernel_rfl
end Go.Proofs.YtleamcmljcdapabGreatDoor
namespace Go.Proofs.YtleamcmljcdapabGreatDoor
open Go Go.Eng Go.Bk Go.RowKit

abbrev cO (cs : List Value) (T : TypeId) : Obj := .cells cs.toArray T (0, 0)
theorem cO_ok {α : Type} {w : World} {b c : Nat} {T : TypeId} {f : α → List Value} {sz : Nat} (l : List α) (h : w.heap[b]? = some (cO (l.map f).flatten T)) (hf : ∀ x, (f x).length = sz) : (⟨l, some ⟨b, 0, none⟩, b, 0, c⟩ : SA α).ok f sz w :=
  Sl.rowsR (xs := l.map f) (t := []) (by rw [List.append_nil]; exact h) (fun x hx => by obtain ⟨y, _, rfl⟩ := List.mem_map.1 hx; exact hf y)
/-- A slice that is just a block. -/
abbrev atB {α : Type} (l : List α) (b : Nat) : SA α := ⟨l, some ⟨b, 0, none⟩, b, 0, l.length⟩
structure ExT where
  a : Nat
  b : Nat
  c : Nat
  d : Nat
  e : Nat
  f : Nat
  g : Nat
def exTR (z : ExT) : List (SA Sp) := [atB [⟨0, 0⟩, ⟨15, 20⟩, ⟨45, 50⟩] z.b, atB [⟨15, 20⟩, ⟨0, 0⟩, ⟨30, 35⟩] z.c, atB [⟨45, 50⟩, ⟨30, 35⟩, ⟨0, 0⟩] z.d]
def exTA (z : ExT) : TrA := ⟨360, atB exT.fr z.a, atB (exTR z) z.e, atB exT.stay z.f, atB exT.light z.g⟩
theorem exTA_pl (z : ExT) : (exTA z).pl = exT := rfl
def exTB (z : ExT) : Blks := [(z.a, cO (exT.fr.map Sp.cells).flatten 46), (z.b, cO (([⟨0, 0⟩, ⟨15, 20⟩, ⟨45, 50⟩] : List Sp).map Sp.cells).flatten 46), (z.c, cO (([⟨15, 20⟩, ⟨0, 0⟩, ⟨30, 35⟩] : List Sp).map Sp.cells).flatten 46), (z.d, cO (([⟨45, 50⟩, ⟨30, 35⟩, ⟨0, 0⟩] : List Sp).map Sp.cells).flatten 46), (z.e, cO ((exTR z).map SA.cell).flatten 24), (z.f, cO (exT.stay.map Sp.cells).flatten 46), (z.g, cO (exT.light.map Sp.cells).flatten 46)]
theorem exTA_ok {z : ExT} {w W : World} {tl : Blks} (hm : Mem W [] (exTB z ++ tl) w) : TrOk w (exTA z) := by
  have h : ∀ b o, (b, o) ∈ exTB z → w.heap[b]? = some o := fun b o hb => hm.at (List.mem_append_right _ (List.mem_append_left _ hb))
  refine ⟨cO_ok _ (h _ _ (.head _)) (fun _ => rfl), cO_ok _ (h _ _ (.tail _ (.tail _ (.tail _ (.tail _ (.head _)))))) (fun _ => rfl), fun x hx => ?_, cO_ok _ (h _ _ (.tail _ (.tail _ (.tail _ (.tail _ (.tail _ (.head _))))))) (fun _ => rfl), cO_ok _ (h _ _ (.tail _ (.tail _ (.tail _ (.tail _ (.tail _ (.tail _ (.head _)))))))) (fun _ => rfl), fun e => by cases e⟩
  simp only [exTA, exTR, List.mem_cons, List.not_mem_nil, or_false] at hx
  rcases hx with rfl | rfl | rfl
  · exact cO_ok _ (h _ _ (.tail _ (.head _))) (fun _ => rfl)
  · exact cO_ok _ (h _ _ (.tail _ (.tail _ (.head _)))) (fun _ => rfl)
  · exact cO_ok _ (h _ _ (.tail _ (.tail _ (.tail _ (.head _))))) (fun _ => rfl)
theorem exTA_sm (z : ExT) : TrSm (exTA z) := ⟨by show (3 : Nat) ≤ _; decide, by show (3 : Nat) ≤ _; decide, fun x hx => by
  simp only [exTA, exTR, List.mem_cons, List.not_mem_nil, or_false] at hx
  rcases hx with rfl | rfl | rfl <;> (show (3 : Nat) ≤ _; decide), by show (3 : Nat) ≤ _; decide, by show (3 : Nat) ≤ _; decide⟩
theorem tour_calls (W : World) : Calls Tryz.prog 28 #[] W (News (fun z : ExT => (exTA z).v) exTB W) := by
  refine calls_start Tryz.func28 rfl rfl ?_
  refine st ?_
  refine RunL.new (New.alloc zero_27) rfl rfl rfl (fun b0 => ?_)
  refine st ?_
  iterate 4 refine RunL.callP (isCall_func rfl ent_24) rfl rfl rfl (fun w hm => lspan_calls _ _ w) ?_
  refine RunL.new (New.alloc zero_46) rfl rfl rfl (fun b1 => ?_)
  refine RunL.new (New.alloc zero_46) rfl rfl rfl (fun b2 => ?_)
  refine RunL.new (New.alloc zero_46) rfl rfl rfl (fun b3 => ?_)
  refine RunL.new (New.alloc zero_46) rfl rfl rfl (fun b4 => ?_)
  refine RunL.sto (Sto.store rfl rfl (.there (.there (.there .here))) ty_46 rfl rfl) rfl rfl ?_
  refine RunL.sto (Sto.store rfl rfl (.there (.there .here)) ty_46 rfl rfl) rfl rfl ?_
  refine RunL.sto (Sto.store rfl rfl (.there .here) ty_46 rfl rfl) rfl rfl ?_
  refine RunL.sto (Sto.store rfl rfl .here ty_46 rfl rfl) rfl rfl ?_
  refine st ?_
  refine RunC.freeN (O := Nat) [⟨9, [], [], fun _ => .agg #[.int .i64 30, .int .i64 40], fun _ => []⟩, ⟨10, [0], [], fun _ => .agg #[.int .i64 20, .int .i64 20], fun _ => []⟩, ⟨11, [0, 1], [], fun _ => .agg #[.int .i64 60, .int .i64 70], fun _ => []⟩, ⟨12, [0, 1, 2], [3], fun l => match l with | [b12] => .slice (some ⟨b12, 0, none⟩) 3 3 | _ => undef, fun l => match l with | [b12] => [(b12, .cells [.int .i64 30, .int .i64 40, .int .i64 20, .int .i64 20, .int .i64 60, .int .i64 70].toArray 46 (0, 0))] | _ => []⟩, ⟨13, [], [], fun _ => .agg #[.int .i64 0, .int .i64 0], fun _ => []⟩, ⟨14, [], [], fun _ => .agg #[.int .i64 15, .int .i64 20], fun _ => []⟩, ⟨15, [], [], fun _ => .agg #[.int .i64 45, .int .i64 50], fun _ => []⟩, ⟨16, [4, 5, 6], [7], fun l => match l with | [b16] => .slice (some ⟨b16, 0, none⟩) 3 3 | _ => undef, fun l => match l with | [b16] => [(b16, .cells [.int .i64 0, .int .i64 0, .int .i64 15, .int .i64 20, .int .i64 45, .int .i64 50].toArray 46 (0, 0))] | _ => []⟩, ⟨17, [], [], fun _ => .agg #[.int .i64 15, .int .i64 20], fun _ => []⟩, ⟨18, [], [], fun _ => .agg #[.int .i64 0, .int .i64 0], fun _ => []⟩, ⟨19, [], [], fun _ => .agg #[.int .i64 30, .int .i64 35], fun _ => []⟩, ⟨20, [8, 9, 10], [11], fun l => match l with | [b20] => .slice (some ⟨b20, 0, none⟩) 3 3 | _ => undef, fun l => match l with | [b20] => [(b20, .cells [.int .i64 15, .int .i64 20, .int .i64 0, .int .i64 0, .int .i64 30, .int .i64 35].toArray 46 (0, 0))] | _ => []⟩, ⟨21, [], [], fun _ => .agg #[.int .i64 45, .int .i64 50], fun _ => []⟩, ⟨22, [], [], fun _ => .agg #[.int .i64 30, .int .i64 35], fun _ => []⟩, ⟨23, [], [], fun _ => .agg #[.int .i64 0, .int .i64 0], fun _ => []⟩, ⟨24, [12, 13, 14], [15], fun l => match l with | [b24] => .slice (some ⟨b24, 0, none⟩) 3 3 | _ => undef, fun l => match l with | [b24] => [(b24, .cells [.int .i64 45, .int .i64 50, .int .i64 30, .int .i64 35, .int .i64 0, .int .i64 0].toArray 46 (0, 0))] | _ => []⟩, ⟨25, [4, 5, 6, 7, 8, 9, 10, 11, 12, 13, 14, 15], [7, 11, 15, 16], fun l => match l with | [b16, b20, b24, b25] => .slice (some ⟨b25, 0, none⟩) 3 3 | _ => undef, fun l => match l with | [b16, b20, b24, b25] => [(b25, .cells [.slice (some ⟨b16, 0, none⟩) 3 3, .slice (some ⟨b20, 0, none⟩) 3 3, .slice (some ⟨b24, 0, none⟩) 3 3].toArray 24 (0, 0))] | _ => []⟩, ⟨26, [0, 1, 2], [], fun _ => .agg #[.int .i64 10, .int .i64 15], fun _ => []⟩, ⟨27, [0, 1, 2, 17], [], fun _ => .agg #[.int .i64 20, .int .i64 20], fun _ => []⟩, ⟨28, [0, 1, 2, 17, 18], [], fun _ => .agg #[.int .i64 5, .int .i64 10], fun _ => []⟩, ⟨29, [0, 1, 2, 17, 18, 19], [20], fun l => match l with | [b29] => .slice (some ⟨b29, 0, none⟩) 3 3 | _ => undef, fun l => match l with | [b29] => [(b29, .cells [.int .i64 10, .int .i64 15, .int .i64 20, .int .i64 20, .int .i64 5, .int .i64 10].toArray 46 (0, 0))] | _ => []⟩, ⟨30, [0, 1, 2, 17, 18, 19], [], fun _ => .agg #[.int .i64 420, .int .i64 480], fun _ => []⟩, ⟨31, [0, 1, 2, 17, 18, 19, 21], [], fun _ => .agg #[.int .i64 380, .int .i64 600], fun _ => []⟩, ⟨32, [0, 1, 2, 17, 18, 19, 21, 22], [], fun _ => .agg #[.int .i64 500, .int .i64 540], fun _ => []⟩, ⟨33, [0, 1, 2, 17, 18, 19, 21, 22, 23], [24], fun l => match l with | [b33] => .slice (some ⟨b33, 0, none⟩) 3 3 | _ => undef, fun l => match l with | [b33] => [(b33, .cells [.int .i64 420, .int .i64 480, .int .i64 380, .int .i64 600, .int .i64 500, .int .i64 540].toArray 46 (0, 0))] | _ => []⟩] 27 25 2 fol_ (by kernel_rfl) (by rfl) rfl rfl rfl ?_ ?_
  ·refine AllOk.cons (fun x => ?_) ?_
   ·show OpOk _ _ _ _ _ (_) (_) 0 9 (fun _ => .agg #[.int .i64 30, .int .i64 40]) (fun _ => [])
    exact OpOk.callP rfl (isCall_func rfl ent_24) rfl rfl (fun w hm => lspan_calls _ _ w)
   refine AllOk.cons (fun x => ?_) ?_
   ·show OpOk _ _ _ _ _ ((9, .agg #[.int .i64 30, .int .i64 40]) :: _) (_) 1 10 (fun _ => .agg #[.int .i64 20, .int .i64 20]) (fun _ => [])
    exact OpOk.callP rfl (isCall_func rfl ent_24) rfl rfl (fun w hm => lspan_calls _ _ w)
   refine AllOk.cons (fun x => ?_) ?_
   ·show OpOk _ _ _ _ _ ((9, .agg #[.int .i64 30, .int .i64 40]) :: (10, .agg #[.int .i64 20, .int .i64 20]) :: _) (_) 2 11 (fun _ => .agg #[.int .i64 60, .int .i64 70]) (fun _ => [])
    exact OpOk.callP rfl (isCall_func rfl ent_24) rfl rfl (fun w hm => lspan_calls _ _ w)
   refine AllOk.cons (fun x => ?_) ?_
   ·show OpOk _ _ _ _ _ ((9, .agg #[.int .i64 30, .int .i64 40]) :: (10, .agg #[.int .i64 20, .int .i64 20]) :: (11, .agg #[.int .i64 60, .int .i64 70]) :: _) (_) 3 12 (fun b12 => .slice (some ⟨b12, 0, none⟩) 3 3) (fun b12 => [(b12, .cells [.int .i64 30, .int .i64 40, .int .i64 20, .int .i64 20, .int .i64 60, .int .i64 70].toArray 46 (0, 0))])
    exact OpOk.new rfl (New.buildSlice (parts := [(0, .tmp 9), (1, .tmp 10), (2, .tmp 11)]) rfl sl_24 zero_46 rfl rfl rfl rfl) rfl rfl
   refine AllOk.cons (fun x => ?_) ?_
   ·show OpOk _ _ _ _ _ (_) (_) 4 13 (fun _ => .agg #[.int .i64 0, .int .i64 0]) (fun _ => [])
    exact OpOk.val rfl (Val.load_agg rfl (.head _) ty_46 rfl) rfl rfl
   refine AllOk.cons (fun x => ?_) ?_
   ·show OpOk _ _ _ _ _ (_) (_) 5 14 (fun _ => .agg #[.int .i64 15, .int .i64 20]) (fun _ => [])
    exact OpOk.val rfl (Val.load_agg rfl (.tail _ (.tail _ (.tail _ (.head _)))) ty_46 rfl) rfl rfl
   refine AllOk.cons (fun x => ?_) ?_
   ·show OpOk _ _ _ _ _ (_) (_) 6 15 (fun _ => .agg #[.int .i64 45, .int .i64 50]) (fun _ => [])
    exact OpOk.val rfl (Val.load_agg rfl (.tail _ (.tail _ (.head _))) ty_46 rfl) rfl rfl
   refine AllOk.cons (fun x => ?_) ?_
   ·show OpOk _ _ _ _ _ ((13, .agg #[.int .i64 0, .int .i64 0]) :: (14, .agg #[.int .i64 15, .int .i64 20]) :: (15, .agg #[.int .i64 45, .int .i64 50]) :: _) (_) 7 16 (fun b16 => .slice (some ⟨b16, 0, none⟩) 3 3) (fun b16 => [(b16, .cells [.int .i64 0, .int .i64 0, .int .i64 15, .int .i64 20, .int .i64 45, .int .i64 50].toArray 46 (0, 0))])
    exact OpOk.new rfl (New.buildSlice (parts := [(0, .tmp 13), (1, .tmp 14), (2, .tmp 15)]) rfl sl_24 zero_46 rfl rfl rfl rfl) rfl rfl
   refine AllOk.cons (fun x => ?_) ?_
   ·show OpOk _ _ _ _ _ (_) (_) 8 17 (fun _ => .agg #[.int .i64 15, .int .i64 20]) (fun _ => [])
    exact OpOk.val rfl (Val.load_agg rfl (.tail _ (.tail _ (.tail _ (.head _)))) ty_46 rfl) rfl rfl
   refine AllOk.cons (fun x => ?_) ?_
   ·show OpOk _ _ _ _ _ (_) (_) 9 18 (fun _ => .agg #[.int .i64 0, .int .i64 0]) (fun _ => [])
    exact OpOk.val rfl (Val.load_agg rfl (.head _) ty_46 rfl) rfl rfl
   refine AllOk.cons (fun x => ?_) ?_
   ·show OpOk _ _ _ _ _ (_) (_) 10 19 (fun _ => .agg #[.int .i64 30, .int .i64 35]) (fun _ => [])
    exact OpOk.val rfl (Val.load_agg rfl (.tail _ (.head _)) ty_46 rfl) rfl rfl
   refine AllOk.cons (fun x => ?_) ?_
   ·show OpOk _ _ _ _ _ ((17, .agg #[.int .i64 15, .int .i64 20]) :: (18, .agg #[.int .i64 0, .int .i64 0]) :: (19, .agg #[.int .i64 30, .int .i64 35]) :: _) (_) 11 20 (fun b20 => .slice (some ⟨b20, 0, none⟩) 3 3) (fun b20 => [(b20, .cells [.int .i64 15, .int .i64 20, .int .i64 0, .int .i64 0, .int .i64 30, .int .i64 35].toArray 46 (0, 0))])
    exact OpOk.new rfl (New.buildSlice (parts := [(0, .tmp 17), (1, .tmp 18), (2, .tmp 19)]) rfl sl_24 zero_46 rfl rfl rfl rfl) rfl rfl
   refine AllOk.cons (fun x => ?_) ?_
   ·show OpOk _ _ _ _ _ (_) (_) 12 21 (fun _ => .agg #[.int .i64 45, .int .i64 50]) (fun _ => [])
    exact OpOk.val rfl (Val.load_agg rfl (.tail _ (.tail _ (.head _))) ty_46 rfl) rfl rfl
   refine AllOk.cons (fun x => ?_) ?_
   ·show OpOk _ _ _ _ _ (_) (_) 13 22 (fun _ => .agg #[.int .i64 30, .int .i64 35]) (fun _ => [])
    exact OpOk.val rfl (Val.load_agg rfl (.tail _ (.head _)) ty_46 rfl) rfl rfl
   refine AllOk.cons (fun x => ?_) ?_
   ·show OpOk _ _ _ _ _ (_) (_) 14 23 (fun _ => .agg #[.int .i64 0, .int .i64 0]) (fun _ => [])
    exact OpOk.val rfl (Val.load_agg rfl (.head _) ty_46 rfl) rfl rfl
   refine AllOk.cons (fun x => ?_) ?_
   ·show OpOk _ _ _ _ _ ((21, .agg #[.int .i64 45, .int .i64 50]) :: (22, .agg #[.int .i64 30, .int .i64 35]) :: (23, .agg #[.int .i64 0, .int .i64 0]) :: _) (_) 15 24 (fun b24 => .slice (some ⟨b24, 0, none⟩) 3 3) (fun b24 => [(b24, .cells [.int .i64 45, .int .i64 50, .int .i64 30, .int .i64 35, .int .i64 0, .int .i64 0].toArray 46 (0, 0))])
    exact OpOk.new rfl (New.buildSlice (parts := [(0, .tmp 21), (1, .tmp 22), (2, .tmp 23)]) rfl sl_24 zero_46 rfl rfl rfl rfl) rfl rfl
   refine AllOk.cons (fun x => ?_) ?_
   ·show OpOk _ _ _ _ _ ((13, .agg #[.int .i64 0, .int .i64 0]) :: (14, .agg #[.int .i64 15, .int .i64 20]) :: (15, .agg #[.int .i64 45, .int .i64 50]) :: (16, .slice (some ⟨(x 7), 0, none⟩) 3 3) :: (17, .agg #[.int .i64 15, .int .i64 20]) :: (18, .agg #[.int .i64 0, .int .i64 0]) :: (19, .agg #[.int .i64 30, .int .i64 35]) :: (20, .slice (some ⟨(x 11), 0, none⟩) 3 3) :: (21, .agg #[.int .i64 45, .int .i64 50]) :: (22, .agg #[.int .i64 30, .int .i64 35]) :: (23, .agg #[.int .i64 0, .int .i64 0]) :: (24, .slice (some ⟨(x 15), 0, none⟩) 3 3) :: _) (((x 7), .cells [.int .i64 0, .int .i64 0, .int .i64 15, .int .i64 20, .int .i64 45, .int .i64 50].toArray 46 (0, 0)) :: ((x 11), .cells [.int .i64 15, .int .i64 20, .int .i64 0, .int .i64 0, .int .i64 30, .int .i64 35].toArray 46 (0, 0)) :: ((x 15), .cells [.int .i64 45, .int .i64 50, .int .i64 30, .int .i64 35, .int .i64 0, .int .i64 0].toArray 46 (0, 0)) :: _) 16 25 (fun b25 => .slice (some ⟨b25, 0, none⟩) 3 3) (fun b25 => [(b25, .cells [.slice (some ⟨(x 7), 0, none⟩) 3 3, .slice (some ⟨(x 11), 0, none⟩) 3 3, .slice (some ⟨(x 15), 0, none⟩) 3 3].toArray 24 (0, 0))])
    generalize x 7 = b16
    generalize x 11 = b20
    generalize x 15 = b24
    exact OpOk.new rfl (New.buildSlice (parts := [(0, .tmp 16), (1, .tmp 20), (2, .tmp 24)]) rfl sl_25 zero_24 rfl rfl rfl rfl) rfl rfl
   refine AllOk.cons (fun x => ?_) ?_
   ·show OpOk _ _ _ _ _ ((9, .agg #[.int .i64 30, .int .i64 40]) :: (10, .agg #[.int .i64 20, .int .i64 20]) :: (11, .agg #[.int .i64 60, .int .i64 70]) :: _) (_) 17 26 (fun _ => .agg #[.int .i64 10, .int .i64 15]) (fun _ => [])
    exact OpOk.callP rfl (isCall_func rfl ent_24) rfl rfl (fun w hm => lspan_calls _ _ w)
   refine AllOk.cons (fun x => ?_) ?_
   ·show OpOk _ _ _ _ _ ((9, .agg #[.int .i64 30, .int .i64 40]) :: (10, .agg #[.int .i64 20, .int .i64 20]) :: (11, .agg #[.int .i64 60, .int .i64 70]) :: (26, .agg #[.int .i64 10, .int .i64 15]) :: _) (_) 18 27 (fun _ => .agg #[.int .i64 20, .int .i64 20]) (fun _ => [])
    exact OpOk.callP rfl (isCall_func rfl ent_24) rfl rfl (fun w hm => lspan_calls _ _ w)
   refine AllOk.cons (fun x => ?_) ?_
   ·show OpOk _ _ _ _ _ ((9, .agg #[.int .i64 30, .int .i64 40]) :: (10, .agg #[.int .i64 20, .int .i64 20]) :: (11, .agg #[.int .i64 60, .int .i64 70]) :: (26, .agg #[.int .i64 10, .int .i64 15]) :: (27, .agg #[.int .i64 20, .int .i64 20]) :: _) (_) 19 28 (fun _ => .agg #[.int .i64 5, .int .i64 10]) (fun _ => [])
    exact OpOk.callP rfl (isCall_func rfl ent_24) rfl rfl (fun w hm => lspan_calls _ _ w)
   refine AllOk.cons (fun x => ?_) ?_
   ·show OpOk _ _ _ _ _ ((9, .agg #[.int .i64 30, .int .i64 40]) :: (10, .agg #[.int .i64 20, .int .i64 20]) :: (11, .agg #[.int .i64 60, .int .i64 70]) :: (26, .agg #[.int .i64 10, .int .i64 15]) :: (27, .agg #[.int .i64 20, .int .i64 20]) :: (28, .agg #[.int .i64 5, .int .i64 10]) :: _) (_) 20 29 (fun b29 => .slice (some ⟨b29, 0, none⟩) 3 3) (fun b29 => [(b29, .cells [.int .i64 10, .int .i64 15, .int .i64 20, .int .i64 20, .int .i64 5, .int .i64 10].toArray 46 (0, 0))])
    exact OpOk.new rfl (New.buildSlice (parts := [(0, .tmp 26), (1, .tmp 27), (2, .tmp 28)]) rfl sl_24 zero_46 rfl rfl rfl rfl) rfl rfl
   refine AllOk.cons (fun x => ?_) ?_
   ·show OpOk _ _ _ _ _ ((9, .agg #[.int .i64 30, .int .i64 40]) :: (10, .agg #[.int .i64 20, .int .i64 20]) :: (11, .agg #[.int .i64 60, .int .i64 70]) :: (26, .agg #[.int .i64 10, .int .i64 15]) :: (27, .agg #[.int .i64 20, .int .i64 20]) :: (28, .agg #[.int .i64 5, .int .i64 10]) :: _) (_) 21 30 (fun _ => .agg #[.int .i64 420, .int .i64 480]) (fun _ => [])
    exact OpOk.callP rfl (isCall_func rfl ent_24) rfl rfl (fun w hm => lspan_calls _ _ w)
   refine AllOk.cons (fun x => ?_) ?_
   ·show OpOk _ _ _ _ _ ((9, .agg #[.int .i64 30, .int .i64 40]) :: (10, .agg #[.int .i64 20, .int .i64 20]) :: (11, .agg #[.int .i64 60, .int .i64 70]) :: (26, .agg #[.int .i64 10, .int .i64 15]) :: (27, .agg #[.int .i64 20, .int .i64 20]) :: (28, .agg #[.int .i64 5, .int .i64 10]) :: (30, .agg #[.int .i64 420, .int .i64 480]) :: _) (_) 22 31 (fun _ => .agg #[.int .i64 380, .int .i64 600]) (fun _ => [])
    exact OpOk.callP rfl (isCall_func rfl ent_24) rfl rfl (fun w hm => lspan_calls _ _ w)
   refine AllOk.cons (fun x => ?_) ?_
   ·show OpOk _ _ _ _ _ ((9, .agg #[.int .i64 30, .int .i64 40]) :: (10, .agg #[.int .i64 20, .int .i64 20]) :: (11, .agg #[.int .i64 60, .int .i64 70]) :: (26, .agg #[.int .i64 10, .int .i64 15]) :: (27, .agg #[.int .i64 20, .int .i64 20]) :: (28, .agg #[.int .i64 5, .int .i64 10]) :: (30, .agg #[.int .i64 420, .int .i64 480]) :: (31, .agg #[.int .i64 380, .int .i64 600]) :: _) (_) 23 32 (fun _ => .agg #[.int .i64 500, .int .i64 540]) (fun _ => [])
    exact OpOk.callP rfl (isCall_func rfl ent_24) rfl rfl (fun w hm => lspan_calls _ _ w)
   refine AllOk.cons (fun x => ?_) ?_
   ·show OpOk _ _ _ _ _ ((9, .agg #[.int .i64 30, .int .i64 40]) :: (10, .agg #[.int .i64 20, .int .i64 20]) :: (11, .agg #[.int .i64 60, .int .i64 70]) :: (26, .agg #[.int .i64 10, .int .i64 15]) :: (27, .agg #[.int .i64 20, .int .i64 20]) :: (28, .agg #[.int .i64 5, .int .i64 10]) :: (30, .agg #[.int .i64 420, .int .i64 480]) :: (31, .agg #[.int .i64 380, .int .i64 600]) :: (32, .agg #[.int .i64 500, .int .i64 540]) :: _) (_) 24 33 (fun b33 => .slice (some ⟨b33, 0, none⟩) 3 3) (fun b33 => [(b33, .cells [.int .i64 420, .int .i64 480, .int .i64 380, .int .i64 600, .int .i64 500, .int .i64 540].toArray 46 (0, 0))])
    exact OpOk.new rfl (New.buildSlice (parts := [(0, .tmp 30), (1, .tmp 31), (2, .tmp 32)]) rfl sl_24 zero_46 rfl rfl rfl rfl) rfl rfl
   exact AllOk.nil
  intro x
  show RunB _ _ _ _ 2 (listedK 25 27) ((9, .agg #[.int .i64 30, .int .i64 40]) :: (10, .agg #[.int .i64 20, .int .i64 20]) :: (11, .agg #[.int .i64 60, .int .i64 70]) :: (12, .slice (some ⟨(x 3), 0, none⟩) 3 3) :: (13, .agg #[.int .i64 0, .int .i64 0]) :: (14, .agg #[.int .i64 15, .int .i64 20]) :: (15, .agg #[.int .i64 45, .int .i64 50]) :: (16, .slice (some ⟨(x 7), 0, none⟩) 3 3) :: (17, .agg #[.int .i64 15, .int .i64 20]) :: (18, .agg #[.int .i64 0, .int .i64 0]) :: (19, .agg #[.int .i64 30, .int .i64 35]) :: (20, .slice (some ⟨(x 11), 0, none⟩) 3 3) :: (21, .agg #[.int .i64 45, .int .i64 50]) :: (22, .agg #[.int .i64 30, .int .i64 35]) :: (23, .agg #[.int .i64 0, .int .i64 0]) :: (24, .slice (some ⟨(x 15), 0, none⟩) 3 3) :: (25, .slice (some ⟨(x 16), 0, none⟩) 3 3) :: (26, .agg #[.int .i64 10, .int .i64 15]) :: (27, .agg #[.int .i64 20, .int .i64 20]) :: (28, .agg #[.int .i64 5, .int .i64 10]) :: (29, .slice (some ⟨(x 20), 0, none⟩) 3 3) :: (30, .agg #[.int .i64 420, .int .i64 480]) :: (31, .agg #[.int .i64 380, .int .i64 600]) :: (32, .agg #[.int .i64 500, .int .i64 540]) :: (33, .slice (some ⟨(x 24), 0, none⟩) 3 3) :: _) _ _ _ (((x 3), .cells [.int .i64 30, .int .i64 40, .int .i64 20, .int .i64 20, .int .i64 60, .int .i64 70].toArray 46 (0, 0)) :: ((x 7), .cells [.int .i64 0, .int .i64 0, .int .i64 15, .int .i64 20, .int .i64 45, .int .i64 50].toArray 46 (0, 0)) :: ((x 11), .cells [.int .i64 15, .int .i64 20, .int .i64 0, .int .i64 0, .int .i64 30, .int .i64 35].toArray 46 (0, 0)) :: ((x 15), .cells [.int .i64 45, .int .i64 50, .int .i64 30, .int .i64 35, .int .i64 0, .int .i64 0].toArray 46 (0, 0)) :: ((x 16), .cells [.slice (some ⟨(x 7), 0, none⟩) 3 3, .slice (some ⟨(x 11), 0, none⟩) 3 3, .slice (some ⟨(x 15), 0, none⟩) 3 3].toArray 24 (0, 0)) :: ((x 20), .cells [.int .i64 10, .int .i64 15, .int .i64 20, .int .i64 20, .int .i64 5, .int .i64 10].toArray 46 (0, 0)) :: ((x 24), .cells [.int .i64 420, .int .i64 480, .int .i64 380, .int .i64 600, .int .i64 500, .int .i64 540].toArray 46 (0, 0)) :: (b4, _) :: (b3, _) :: (b2, _) :: (b1, _) :: (b0, _) :: _)
  generalize x 3 = b12
  generalize x 7 = b16
  generalize x 11 = b20
  generalize x 15 = b24
  generalize x 16 = b25
  generalize x 20 = b29
  generalize x 24 = b33
  refine RunB.one (i := 25) (by kernel_rfl) ?_
  refine RunI.val rfl (Val.build (parts := [(0, .const (.int .i64 360)), (1, .tmp 12), (2, .tmp 25), (3, .tmp 29), (4, .tmp 33)]) rfl zero_27 places_27 rfl) rfl rfl rfl (RunK.toB ?_)
  refine RunB.one (i := 26) (by kernel_rfl) ?_
  refine RunI.sto rfl (Sto.store rfl rfl (.there (.there (.there (.there (.there (.there (.there (.there (.there (.there (.there .here))))))))))) ty_27 rfl rfl) rfl rfl (RunK.toB ?_)
  refine RunB.done (by kernel_rfl) ?_
  refine st ?_
  refine RunC.ret ?_
  exact RunE.ret (chg := []) (.r1 rfl (.agg rfl (.tail _ (.tail _ (.tail _ (.tail _ (.tail _ (.tail _ (.tail _ (.tail _ (.tail _ (.tail _ (.tail _ (.head _)))))))))))) ty_27 rfl)) (fun _ hm => ⟨⟨b12, b16, b20, b24, b25, b29, b33⟩, rfl, hm.pick (.cons .here rfl (.cons .here rfl (.cons .here rfl (.cons .here rfl (.cons .here rfl (.cons .here rfl (.cons .here rfl .nil)))))))⟩)
structure ExC where
  a : Nat
  b : Nat
def exCA (z : ExC) : CbA := ⟨4, atB exC.homes z.a, 1, atB exC.loans z.b⟩
def exCB (z : ExC) : Blks := [(z.a, cO (exC.homes.map intC).flatten 3), (z.b, cO (exC.loans.map Ln.cells).flatten 74)]
theorem exCA_pl (z : ExC) : (exCA z).pl = exC := rfl
theorem exCA_ok {z : ExC} {w W : World} {tl : Blks} (hm : Mem W [] (exCB z ++ tl) w) : CbOk w (exCA z) := by
  have h : ∀ b o, (b, o) ∈ exCB z → w.heap[b]? = some o := fun b o hb => hm.at (List.mem_append_right _ (List.mem_append_left _ hb))
  exact ⟨cO_ok _ (h _ _ (.head _)) (fun _ => rfl), cO_ok _ (h _ _ (.tail _ (.head _))) (fun _ => rfl)⟩
theorem exCA_s (z : ExC) : CbS (exCA z) := ⟨by show (3 : Nat) ≤ _; decide, by show (5 : Nat) ≤ _; decide⟩
theorem cabinet_calls (W : World) : Calls Tryz.prog 29 #[] W (News (fun z : ExC => (exCA z).v) exCB W) := by
  refine calls_start Tryz.func29 rfl rfl ?_
  refine st ?_
  refine RunL.new (New.alloc zero_34) rfl rfl rfl (fun b0 => ?_)
  refine st ?_
  refine RunL.new (New.buildSlice (parts := [(0, .const (.int .i64 0)), (1, .const (.int .i64 1)), (2, .const (.int .i64 2))]) rfl sl_31 zero_3 rfl rfl rfl rfl) rfl rfl rfl (fun b1 => ?_)
  refine lv (Val.build (parts := [(1, .const (.int .i64 0)), (2, .const (.int .i64 0))]) rfl zero_74 places_74 rfl) ?_
  refine lv (Val.build (parts := [(1, .const (.int .i64 1)), (2, .const (.int .i64 1))]) rfl zero_74 places_74 rfl) ?_
  refine lv (Val.build (parts := [(0, .const (.int .i64 1)), (1, .const (.int .i64 0)), (2, .const (.int .i64 0))]) rfl zero_74 places_74 rfl) ?_
  refine lv (Val.build (parts := [(0, .const (.int .i64 1)), (1, .const (.int .i64 1)), (2, .const (.int .i64 1))]) rfl zero_74 places_74 rfl) ?_
  refine lv (Val.build (parts := [(0, .const (.int .i64 2)), (1, .const (.int .i64 0)), (3, .const (.int .i64 1))]) rfl zero_74 places_74 rfl) ?_
  refine RunL.new (New.buildSlice (parts := [(0, .tmp 2), (1, .tmp 3), (2, .tmp 4), (3, .tmp 5), (4, .tmp 6)]) rfl sl_32 zero_74 rfl rfl rfl rfl) rfl rfl rfl (fun b7 => ?_)
  refine lv (Val.build (parts := [(0, .const (.int .i64 4)), (1, .tmp 1), (2, .const (.int .i64 1)), (3, .tmp 7)]) rfl zero_34 places_34 rfl) ?_
  refine RunL.sto (Sto.store rfl rfl (.there (.there .here)) ty_34 rfl rfl) rfl rfl ?_
  refine st ?_
  refine RunC.ret ?_
  exact RunE.ret (chg := []) (.r1 rfl (.agg rfl (.tail _ (.tail _ (.head _))) ty_34 rfl)) (fun _ hm => ⟨⟨b1, b7⟩, rfl, hm.pick (.cons (.there .here) rfl (.cons .here rfl .nil))⟩)
structure ExR where
  a : Nat
  b : Nat
  c : Nat
  d : Nat
  e : Nat
  f : Nat
def exRA (z : ExR) : RyA := ⟨atB exR.terms z.a, atB exR.prices z.b, atB [atB [334, 333, 333] z.c] z.d, atB exR.reports z.e, atB exR.paid z.f⟩
def exRB (z : ExR) : Blks := [(z.a, cO (exR.terms.map Tm.cells).flatten 124), (z.b, cO (exR.prices.map intC).flatten 3), (z.c, cO (([334, 333, 333] : List Int).map intC).flatten 3), (z.d, cO (([atB [334, 333, 333] z.c] : List (SA Int)).map SA.cell).flatten 31), (z.e, cO (exR.reports.map Rp.cells).flatten 76), (z.f, cO (exR.paid.map intC).flatten 3)]
theorem exRA_pl (z : ExR) : (exRA z).pl = exR := rfl
theorem exRA_ok {z : ExR} {w W : World} {tl : Blks} (hm : Mem W [] (exRB z ++ tl) w) : RyOk w (exRA z) := by
  have h : ∀ b o, (b, o) ∈ exRB z → w.heap[b]? = some o := fun b o hb => hm.at (List.mem_append_right _ (List.mem_append_left _ hb))
  refine ⟨cO_ok _ (h _ _ (.head _)) (fun _ => rfl), cO_ok _ (h _ _ (.tail _ (.head _))) (fun _ => rfl), cO_ok _ (h _ _ (.tail _ (.tail _ (.tail _ (.head _))))) (fun _ => rfl), fun x hx => ?_, cO_ok _ (h _ _ (.tail _ (.tail _ (.tail _ (.tail _ (.head _)))))) (fun _ => rfl), cO_ok _ (h _ _ (.tail _ (.tail _ (.tail _ (.tail _ (.tail _ (.head _))))))) (fun _ => rfl)⟩
  simp only [exRA, List.mem_cons, List.not_mem_nil, or_false] at hx
  subst hx
  exact cO_ok _ (h _ _ (.tail _ (.tail _ (.head _)))) (fun _ => rfl)
theorem exRA_sm (z : ExR) : RySm (exRA z) := ⟨by show (2 : Nat) ≤ _; decide, by show (1 : Nat) ≤ _; decide, by show (1 : Nat) ≤ _; decide, fun x hx => by
  simp only [exRA, List.mem_cons, List.not_mem_nil, or_false] at hx
  subst hx
  show (3 : Nat) ≤ _; decide, by show (2 : Nat) ≤ _; decide, by show (2 : Nat) ≤ _; decide⟩
theorem royal_calls (W : World) : Calls Tryz.prog 30 #[] W (News (fun z : ExR => (exRA z).v) exRB W) := by
  refine calls_start Tryz.func30 rfl rfl ?_
  refine st ?_
  refine RunL.new (New.alloc zero_41) rfl rfl rfl (fun b0 => ?_)
  refine st ?_
  refine lv (Val.build (parts := [(0, .const (.int .i64 20)), (1, .const (.int .i64 3)), (2, .const (.int .i64 30))]) rfl zero_124 places_124 rfl) ?_
  refine lv (Val.build (parts := [(0, .const (.int .i64 25)), (1, .const (.int .i64 12)), (2, .const (.int .i64 25))]) rfl zero_124 places_124 rfl) ?_
  refine RunL.new (New.buildSlice (parts := [(0, .tmp 1), (1, .tmp 2)]) rfl sl_37 zero_124 rfl rfl rfl rfl) rfl rfl rfl (fun b3 => ?_)
  refine RunL.new (New.buildSlice (parts := [(0, .const (.int .i64 99))]) rfl sl_31 zero_3 rfl rfl rfl rfl) rfl rfl rfl (fun b4 => ?_)
  refine RunL.new (New.buildSlice (parts := [(0, .const (.int .i64 334)), (1, .const (.int .i64 333)), (2, .const (.int .i64 333))]) rfl sl_31 zero_3 rfl rfl rfl rfl) rfl rfl rfl (fun b5 => ?_)
  refine RunL.new (New.buildSlice (parts := [(0, .tmp 5)]) rfl sl_38 zero_31 rfl rfl rfl rfl) rfl rfl rfl (fun b6 => ?_)
  refine lv (Val.build (parts := [(0, .const (.int .i64 0)), (2, .const (.int .i64 0)), (3, .const (.int .i64 5))]) rfl zero_76 places_76 rfl) ?_
  refine lv (Val.build (parts := [(0, .const (.int .i64 1)), (2, .const (.int .i64 4)), (3, .const (.int .i64 7))]) rfl zero_76 places_76 rfl) ?_
  refine RunL.new (New.buildSlice (parts := [(0, .tmp 7), (1, .tmp 8)]) rfl sl_39 zero_76 rfl rfl rfl rfl) rfl rfl rfl (fun b9 => ?_)
  refine RunL.new (New.buildSlice (parts := [(0, .const (.int .i64 0)), (1, .const (.int .i64 0))]) rfl sl_31 zero_3 rfl rfl rfl rfl) rfl rfl rfl (fun b10 => ?_)
  refine lv (Val.build (parts := [(0, .tmp 3), (1, .tmp 4), (2, .tmp 6), (3, .tmp 9), (4, .tmp 10)]) rfl zero_41 places_41 rfl) ?_
  refine RunL.sto (Sto.store rfl rfl (.there (.there (.there (.there (.there (.there .here)))))) ty_41 rfl rfl) rfl rfl ?_
  refine st ?_
  refine RunC.ret ?_
  exact RunE.ret (chg := []) (.r1 rfl (.agg rfl (.tail _ (.tail _ (.tail _ (.tail _ (.tail _ (.tail _ (.head _))))))) ty_41 rfl)) (fun _ hm => ⟨⟨b3, b4, b5, b6, b9, b10⟩, rfl, hm.pick (.cons (.there (.there (.there (.there (.there .here))))) rfl (.cons (.there (.there (.there (.there .here)))) rfl (.cons (.there (.there (.there .here))) rfl (.cons (.there (.there .here)) rfl (.cons (.there .here) rfl (.cons .here rfl .nil))))))⟩)
def exPA (z : Nat) : PsA := ⟨atB exP.cards z, exP.less, exP.loss⟩
def exPB (z : Nat) : Blks := [(z, cO (exP.cards.map Pt.cells).flatten 69)]
theorem exPA_pl (z : Nat) : (exPA z).pl = exP := rfl
theorem exPA_ok {z : Nat} {w W : World} {tl : Blks} (hm : Mem W [] (exPB z ++ tl) w) : (exPA z).cards.ok Pt.cells 5 w := by
  have h : ∀ b o, (b, o) ∈ exPB z → w.heap[b]? = some o := fun b o hb => hm.at (List.mem_append_right _ (List.mem_append_left _ hb))
  exact cO_ok _ (h _ _ (.head _)) (fun _ => rfl)
theorem prints_calls (W : World) : Calls Tryz.prog 31 #[] W (News (fun z : Nat => (exPA z).v) exPB W) := by
  refine calls_start Tryz.func31 rfl rfl ?_
  refine st ?_
  refine RunL.new (New.alloc zero_48) rfl rfl rfl (fun b0 => ?_)
  refine st ?_
  refine RunL.callP (isCall_func rfl ent_24) rfl rfl rfl (fun w hm => lspan_calls _ _ w) ?_
  refine RunL.callP (isCall_func rfl ent_24) rfl rfl rfl (fun w hm => lspan_calls _ _ w) ?_
  refine lv (Val.build (parts := [(0, .tmp 1), (1, .tmp 2)]) rfl zero_69 places_69 rfl) ?_
  refine RunL.new (New.buildSlice (parts := [(0, .tmp 3)]) rfl sl_44 zero_69 rfl rfl rfl rfl) rfl rfl rfl (fun b4 => ?_)
  refine RunL.callP (isCall_func rfl ent_24) rfl rfl rfl (fun w hm => lspan_calls _ _ w) ?_
  refine RunL.callP (isCall_func rfl ent_24) rfl rfl rfl (fun w hm => lspan_calls _ _ w) ?_
  refine lv (Val.build (parts := [(0, .tmp 4), (1, .tmp 5), (2, .tmp 6)]) rfl zero_48 places_48 rfl) ?_
  refine RunL.sto (Sto.store rfl rfl (.there .here) ty_48 rfl rfl) rfl rfl ?_
  refine st ?_
  refine RunC.ret ?_
  exact RunE.ret (chg := []) (.r1 rfl (.agg rfl (.tail _ (.head _)) ty_48 rfl)) (fun _ hm => ⟨b4, rfl, hm.pick (.cons .here rfl .nil)⟩)
end Go.Proofs.YtleamcmljcdapabGreatDoor
namespace Go.Proofs.YtleamcmljcdapabGreatDoor
open Go Go.Eng
theorem ent_10 : Enters Tryz.prog 10 := enters_of Tryz.func10 (by kernel_rfl) rfl
theorem ent_11 : Enters Tryz.prog 11 := enters_of Tryz.func11 (by kernel_rfl) rfl
theorem ent_12 : Enters Tryz.prog 12 := enters_of Tryz.func12 (by kernel_rfl) rfl
theorem ent_13 : Enters Tryz.prog 13 := enters_of Tryz.func13 (by kernel_rfl) rfl
theorem ent_14 : Enters Tryz.prog 14 := enters_of Tryz.func14 (by kernel_rfl) rfl
theorem ent_15 : Enters Tryz.prog 15 := enters_of Tryz.func15 (by kernel_rfl) rfl
theorem ent_16 : Enters Tryz.prog 16 := enters_of Tryz.func16 (by kernel_rfl) rfl
theorem ent_17 : Enters Tryz.prog 17 := enters_of Tryz.func17 (by kernel_rfl) rfl
theorem ent_18 : Enters Tryz.prog 18 := enters_of Tryz.func18 (by kernel_rfl) rfl
theorem ent_19 : Enters Tryz.prog 19 := enters_of Tryz.func19 (by kernel_rfl) rfl
theorem ent_20 : Enters Tryz.prog 20 := enters_of Tryz.func20 (by kernel_rfl) rfl
theorem ent_21 : Enters Tryz.prog 21 := enters_of Tryz.func21 (by kernel_rfl) rfl
theorem ent_28 : Enters Tryz.prog 28 := enters_of Tryz.func28 (by kernel_rfl) rfl
theorem ent_29 : Enters Tryz.prog 29 := enters_of Tryz.func29 (by kernel_rfl) rfl
theorem ent_30 : Enters Tryz.prog 30 := enters_of Tryz.func30 (by kernel_rfl) rfl
theorem ent_31 : Enters Tryz.prog 31 := enters_of Tryz.func31 (by kernel_rfl) rfl
theorem ent_9 : Enters Tryz.prog 9 := enters_of Tryz.func9 (by kernel_rfl) rfl
end Go.Proofs.YtleamcmljcdapabGreatDoor
namespace Go.Bk
open Go Go.Eng Go.RowKit
theorem grow_news {β : Type} {P : Program} {f : FuncId} {args : Array Value} {w : World} {v : β → Value} {nw : β → Blks} {I : β → Prop} (h : Calls P f args w (Grow w [] v nw I)) : Calls P f args w (News (fun z : { b // I b } => v z.1) (fun z => nw z.1) w) :=
  calls_mono h (by rintro e w' ⟨b, h1, h2, h3⟩; exact ⟨⟨b, h1⟩, h2, h3⟩)
theorem rd_ok {α β : Type} {x : Except Int α} {pl : β → α} {ok : β → Prop} {z0 z : β} {e : Int} {t : α} (h : RdX x pl ok z0 (z, e)) (hx : x = .ok t) : pl z = t ∧ e = 0 ∧ ok z := by
  rcases h with ⟨t', h1, h2, h3, h4⟩ | ⟨k, h1, _⟩
  · rw [hx] at h1; cases h1; exact ⟨h2, h3, h4⟩
  · rw [hx] at h1; cases h1
end Go.Bk
namespace Go.Proofs.YtleamcmljcdapabGreatDoor
open Go Go.Eng Go.Bk Go.RowKit

theorem wT (z : ExT) : writeV (tourX (exTA z).pl) (tourS (exTA z).pl) = .tuple #[.string (bs exTS), .int .i64 0] := by rw [exTA_pl, ← exT_text]; rfl
theorem wC (z : ExC) : writeV (cabX (exCA z).pl) (cabS (exCA z).pl) = .tuple #[.string (bs exCS), .int .i64 0] := by rw [exCA_pl, ← exC_text]; rfl
theorem wR (z : ExR) : writeV (royalX (exRA z).pl) (royalS (exRA z).pl) = .tuple #[.string (bs exRS), .int .i64 0] := by rw [exRA_pl, ← exR_text]; rfl
/-- What is read is compared with something. -/
theorem sameTX_calls (x : TrX) (h : TrXOk 10000 x) (u : TrA) (hs : TrSm u) (tl : Blks) (W0 w : World) (hm : Mem W0 [] (trB x ++ tl) w) (hU : TrOk w u) : Calls Tryz.prog 14 #[.agg x.cells.toArray, u.v] w (Pure (.bool (decide (x.pl = u.pl))) w) := by
  have h1 := rsameTour_calls x.toA u (h.sm (Nat.le_refl _)) hs w (trX_ok h hm) hU
  rw [TrX.toA_pl] at h1
  have e : x.toA.v = .agg x.cells.toArray := by unfold TrA.v; rw [h.cells]
  rw [e] at h1
  exact h1
theorem sameCX_calls (x : CbX) (h : CbXOk 10000 x) (u : CbA) (hs : CbS u) (tl : Blks) (W0 w : World) (hm : Mem W0 [] (cbB x ++ tl) w) (hU : CbOk w u) : Calls Tryz.prog 16 #[.agg x.cells.toArray, u.v] w (Pure (.bool (decide (x.pl = u.pl))) w) := by
  have h1 := rsameCabinet_calls x.toA u (h.sm (Nat.le_refl _)) hs w (cbX_ok h hm) hU
  rw [CbX.toA_pl] at h1
  have e : x.toA.v = .agg x.cells.toArray := by unfold CbA.v; rw [h.cells]
  rw [e] at h1
  exact h1
theorem sameRX_calls (x : RyX) (h : RyXOk 10000 x) (u : RyA) (hs : RySm u) (tl : Blks) (W0 w : World) (hm : Mem W0 [] (ryB x ++ tl) w) (hU : RyOk w u) : Calls Tryz.prog 18 #[.agg x.cells.toArray, u.v] w (Pure (.bool (decide (x.pl = u.pl))) w) := by
  have h1 := rsameRoyal_calls x.toA u (h.sm (Nat.le_refl _)) hs w (ryX_ok h hm) hU
  rw [RyX.toA_pl] at h1
  have e : x.toA.v = .agg x.cells.toArray := by unfold RyA.v; rw [h.cells]
  rw [e] at h1
  exact h1
theorem samePX_calls (x : PsX) (h : PsXOk x) (hl : x.cards.2.length ≤ 1000000) (u : PsA) (hs : u.cards.l.length ≤ 1000000) (tl : Blks) (W0 w : World) (hm : Mem W0 [] (ptB x.cards ++ tl) w) (hU : u.cards.ok Pt.cells 5 w) : Calls Tryz.prog 21 #[.agg x.cells.toArray, u.v] w (Pure (.bool (decide (x.pl = u.pl))) w) := by
  have h1 := rsamePrints_calls x.toA u w (own_sl (f := Pt.cells) (e := 69) (fun _ => rfl) (by decide) h (fun b o hb => (hm.newd b o (List.mem_append_left _ hb)).2)) hU hl hs
  have e : x.toA.v = .agg x.cells.toArray := by
    show Value.agg [(OL.sa x.cards).v, _, _, _, _].toArray = _
    rw [OL.sa_v h]
    rfl
  rw [e] at h1
  exact h1
theorem one_psX (x : PsX) : ∀ v ∈ x.cells, isOne v = true := fun v hv => by
  simp only [PsX.cells, List.mem_cons, List.not_mem_nil, or_false] at hv
  rcases hv with rfl | rfl | rfl | rfl | rfl <;> first | rfl | exact own_one _ _
theorem pure_true {P : Program} {f : FuncId} {args : Array Value} {w : World} {p : Prop} [Decidable p] (h : Calls P f args w (Pure (.bool (decide p)) w)) (hp : p) : Calls P f args w (Pure (.bool true) w) := by rw [decide_eq_true hp] at h; exact h
set_option maxHeartbeats 1000000 in
theorem alive_calls (W : World) (hL : Lw Tryz.prog W) : Calls Tryz.prog 8 #[] W (Pure (.bool true) W) := by
  refine calls_start Tryz.func8 rfl rfl ?_
  refine csr ?_
  refine vp rfl rfl rfl rfl ?_
  refine nsr ?_
  refine RunL.callN (isCall_func rfl ent_28) rfl rfl rfl (fun w hm => tour_calls w) (fun b18 => ?_)
  refine RunL.callP (isCall_func rfl ent_13) rfl rfl rfl (fun w hm => (by have h9 := WriteTour_calls (exTA b18) (exTA_sm b18) w (hL.mono hm) (exTA_ok hm); rw [wT] at h9; exact h9)) ?_
  iterate 5 refine vp rfl rfl rfl rfl ?_
  refine nnx ?_
  refine RunC.seq ?_
  refine RunC.keep (Sub.cons (t := 0) rfl (Sub.cons (t := 1) rfl (Sub.cons (t := 2) rfl (Sub.nil _)))) .nil ?_
  refine RunC.region ?_
  refine RunL.callN (isCall_func rfl ent_29) rfl rfl rfl (fun w hm => cabinet_calls w) (fun b23 => ?_)
  refine RunL.callP (isCall_func rfl ent_15) rfl rfl rfl (fun w hm => (by have h9 := WriteCabinet_calls (exCA b23) (exCA_s b23) w (hL.mono hm) (exCA_ok hm); rw [wC] at h9; exact h9)) ?_
  iterate 5 refine vp rfl rfl rfl rfl ?_
  refine nnx ?_
  refine RunC.seq ?_
  refine RunC.keep (Sub.cons (t := 0) rfl (Sub.cons (t := 1) rfl (Sub.cons (t := 2) rfl (Sub.cons (t := 3) rfl (Sub.cons (t := 4) rfl (Sub.nil _)))))) .nil ?_
  refine RunC.region ?_
  refine RunL.callN (isCall_func rfl ent_30) rfl rfl rfl (fun w hm => royal_calls w) (fun b28 => ?_)
  refine RunL.callP (isCall_func rfl ent_17) rfl rfl rfl (fun w hm => (by have h9 := WriteRoyal_calls (exRA b28) (exRA_sm b28) w (hL.mono hm) (exRA_ok hm); rw [wR] at h9; exact h9)) ?_
  iterate 5 refine vp rfl rfl rfl rfl ?_
  refine nnx ?_
  refine RunC.seq ?_
  refine RunC.keep (Sub.cons (t := 0) rfl (Sub.cons (t := 1) rfl (Sub.cons (t := 2) rfl (Sub.cons (t := 3) rfl (Sub.cons (t := 4) rfl (Sub.cons (t := 5) rfl (Sub.cons (t := 6) rfl (Sub.nil _)))))))) .nil ?_
  refine RunC.region ?_
  refine RunL.callN (isCall_func rfl ent_31) rfl rfl rfl (fun w hm => prints_calls w) (fun b33 => ?_)
  refine RunL.callNT (isCall_func rfl ent_19) rfl rfl rfl (fun w hm => (by have h9 := writePrints_ok (exPA b33) w (exPA_ok hm) exP_ok; simp only [exPA_pl, exP_bytes] at h9; exact grow_news h9)) (fun z34 => ?_)
  obtain ⟨y34, hy34⟩ := z34
  dsimp only
  iterate 5 refine vp rfl rfl rfl rfl ?_
  refine nnx ?_
  refine RunC.seq ?_
  refine RunC.seq ?_
  refine RunC.keep (Sub.cons (t := 0) rfl (Sub.cons (t := 1) rfl (Sub.cons (t := 2) rfl (Sub.cons (t := 3) rfl (Sub.cons (t := 4) rfl (Sub.cons (t := 5) rfl (Sub.cons (t := 6) rfl (Sub.cons (t := 7) rfl (Sub.cons (t := 8) rfl (Sub.nil _)))))))))) (Pick.skip (Pick.refl _)) ?_
  refine RunC.region ?_
  refine vp rfl rfl rfl rfl ?_
  refine RunL.val (Val.neqStr rfl rfl) rfl rfl rfl ?_
  refine vp rfl rfl rfl rfl ?_
  refine RunL.sure (dj := 39) false rfl (ndec rfl) ?_
  iterate 4 refine vp rfl rfl rfl rfl ?_
  refine RunL.sure (dj := 43) false rfl (by decide) ?_
  refine vp rfl rfl rfl rfl ?_
  refine RunL.val (Val.neqStr rfl rfl) rfl rfl rfl ?_
  refine vp rfl rfl rfl rfl ?_
  refine vp rfl rfl rfl rfl ?_
  refine RunL.sure (dj := 47) false rfl (ndec rfl) ?_
  iterate 4 refine vp rfl rfl rfl rfl ?_
  refine RunL.sure (dj := 51) false rfl (by decide) ?_
  refine vp rfl rfl rfl rfl ?_
  refine RunL.val (Val.neqStr rfl rfl) rfl rfl rfl ?_
  refine vp rfl rfl rfl rfl ?_
  refine vp rfl rfl rfl rfl ?_
  refine RunL.sure (dj := 55) false rfl (ndec rfl) ?_
  iterate 4 refine vp rfl rfl rfl rfl ?_
  refine RunL.sure (dj := 59) false rfl (by decide) ?_
  refine vp rfl rfl rfl rfl ?_
  refine RunL.new (New.buildSlice (parts := [(0, .const (.int .u8 80)), (1, .const (.int .u8 1)), (2, .const (.int .u8 0)), (3, .const (.int .u8 100)), (4, .const (.int .u8 0)), (5, .const (.int .u8 1)), (6, .const (.int .u8 1)), (7, .const (.int .u8 244)), (8, .const (.int .u8 0)), (9, .const (.int .u8 5)), (10, .const (.int .u8 0)), (11, .const (.int .u8 0)), (12, .const (.int .u8 0)), (13, .const (.int .u8 3)), (14, .const (.int .u8 0)), (15, .const (.int .u8 2)), (16, .const (.int .u8 0)), (17, .const (.int .u8 10)), (18, .const (.int .u8 0)), (19, .const (.int .u8 10)), (20, .const (.int .u8 29)), (21, .const (.int .u8 39))]) rfl sl_22 zero_5 rfl rfl rfl rfl) rfl rfl rfl (fun b61 => ?_)
  refine RunL.callP (isCall_func rfl ent_20) rfl rfl rfl (fun w hm => (pure_true (by rw [ownV_slice hy34]; exact rsameBytes_calls ⟨exPS, ownQ y34, ownK y34, 0, ownC y34⟩ (atB exPS b61) w (own_bytes hy34 (fun b o h => hm.at (.tail _ ((by first | exact List.mem_append_left _ h | exact List.mem_append_right _ (List.mem_append_left _ h)))))) (cO_ok (f := byC) exPS (hm.at (.head _)) (fun _ => rfl))) rfl)) ?_
  iterate 3 refine vp rfl rfl rfl rfl ?_
  refine RunL.sure (dj := 65) false rfl rfl ?_
  iterate 3 refine vp rfl rfl rfl rfl ?_
  refine nnx ?_
  refine RunC.cond rfl (fun h => absurd h (by decide)) ?_
  intro c0
  clear c0
  refine RunC.skip ?_
  refine RunE.next ?_
  refine csr ?_
  refine vp rfl rfl rfl rfl ?_
  refine RunL.callNA [(b61, _)] _ rfl (isCall_func rfl ent_9) rfl rfl rfl (fun w hm => grow_news (ReadTour_calls exTS w (hL.mono hm) (by rw [exT_len]; decide))) (fun z71 => ?_)
  obtain ⟨⟨x71, e71⟩, h71⟩ := z71
  obtain ⟨p71, e171, o71⟩ := rd_ok h71 exT_read
  subst e171
  dsimp only
  iterate 3 refine vp rfl rfl rfl rfl ?_
  refine RunL.new (New.alloc zero_27) rfl rfl rfl (fun b9 => ?_)
  refine RunL.sto (Sto.store (cs := zsrdT) (cs' := x71.cells) rfl rfl .here ty_27 rfl (paste_over rfl (one_trX _))) rfl rfl ?_
  refine vp rfl rfl rfl rfl ?_
  refine nsr ?_
  refine vp rfl rfl rfl rfl ?_
  refine RunL.callNA [(b9, _), (b61, _)] _ rfl (isCall_func rfl ent_10) rfl rfl rfl (fun w hm => grow_news (ReadCabinet_calls exCS w (hL.mono hm) (by rw [exC_len]; decide))) (fun z76 => ?_)
  obtain ⟨⟨x76, e76⟩, h76⟩ := z76
  obtain ⟨p76, e176, o76⟩ := rd_ok h76 exC_read
  subst e176
  dsimp only
  iterate 3 refine vp rfl rfl rfl rfl ?_
  refine RunL.new (New.alloc zero_34) rfl rfl rfl (fun b11 => ?_)
  refine RunL.sto (Sto.store (cs := zsrdC) (cs' := x76.cells) rfl rfl .here ty_34 rfl (paste_over rfl (one_cbX _))) rfl rfl ?_
  refine vp rfl rfl rfl rfl ?_
  refine nsr ?_
  refine vp rfl rfl rfl rfl ?_
  refine RunL.callNA [(b11, _), (b9, _), (b61, _)] _ rfl (isCall_func rfl ent_11) rfl rfl rfl (fun w hm => grow_news (ReadRoyal_calls exRS w (hL.mono hm) (by rw [exR_len]; decide))) (fun z81 => ?_)
  obtain ⟨⟨x81, e81⟩, h81⟩ := z81
  obtain ⟨p81, e181, o81⟩ := rd_ok h81 exR_read
  subst e181
  dsimp only
  iterate 3 refine vp rfl rfl rfl rfl ?_
  refine RunL.new (New.alloc zero_41) rfl rfl rfl (fun b13 => ?_)
  refine RunL.sto (Sto.store (cs := zsrdR) (cs' := x81.cells) rfl rfl .here ty_41 rfl (paste_over rfl (one_ryX _))) rfl rfl ?_
  refine vp rfl rfl rfl rfl ?_
  refine nsr ?_
  refine vp rfl rfl rfl rfl ?_
  refine RunL.callNA [(b13, _), (b11, _), (b9, _), (b61, _)] _ rfl (isCall_func rfl ent_12) rfl rfl rfl (fun w hm => (by rw [ownV_slice hy34]; exact grow_news (ReadPrints_calls exPS (ownQ y34) (ownK y34) 0 (ownC y34) w (own_bytes hy34 (fun b o h => hm.at (.tail _ (.tail _ (.tail _ (.tail _ ((by first | exact List.mem_append_right _ (List.mem_append_right _ (List.mem_append_right _ (List.mem_append_left _ h))) | exact List.mem_append_right _ (List.mem_append_right _ (List.mem_append_right _ (List.mem_append_right _ (List.mem_append_left _ h)))))))))))) (by decide)))) (fun z86 => ?_)
  obtain ⟨⟨x86, e86⟩, h86⟩ := z86
  obtain ⟨p86, e186, o86⟩ := rd_ok h86 exP_read
  subst e186
  dsimp only
  iterate 3 refine vp rfl rfl rfl rfl ?_
  refine RunL.new (New.alloc zero_48) rfl rfl rfl (fun b15 => ?_)
  refine RunL.sto (Sto.store (cs := zeroPX.cells) (cs' := x86.cells) rfl rfl .here ty_48 rfl (paste_over rfl (one_psX _))) rfl rfl ?_
  refine vp rfl rfl rfl rfl ?_
  refine nnx ?_
  refine RunC.seq ?_
  refine RunC.draw 28 fol_ (.cons .here rfl (.cons .here rfl (.cons .here rfl (.cons .here rfl (.cons .here rfl .nil))))) ?_
  refine va 0 rfl (Val.load_agg rfl (.tail _ (.tail _ (.tail _ (.head _)))) ty_27 rfl) rfl rfl rfl (.cons .here rfl (.cons .here rfl (.cons .here rfl (.cons .here rfl (.cons .here rfl .nil))))) rfl ?_
  refine RunA.one (i := 1) (by kernel_rfl) (by kernel_rfl) ?_
  refine RunI.callN rfl (isCall_func rfl ent_28) rfl rfl rfl (fun w hm => tour_calls w) (fun b90 => (RunK.toA (.cons .here rfl (.cons .here rfl (.cons .here rfl (.cons .here rfl (.cons .here rfl (.cons .here rfl (.cons .here rfl (.cons .here rfl (.cons .here rfl (.cons .here rfl (.cons .here rfl (.cons .here rfl .nil)))))))))))) (.cons (.there (.there (.there (.there (.there (.there (.there .here))))))) rfl (.cons (.there (.there (.there (.there (.there (.there (.there .here))))))) rfl (.cons (.there (.there (.there (.there (.there (.there (.there .here))))))) rfl (.cons (.there (.there (.there (.there (.there (.there (.there .here))))))) rfl (.cons (.there (.there (.there (.there (.there (.there (.there .here))))))) rfl .nil))))) rfl ?_))
  refine RunA.one (i := 2) (by kernel_rfl) (by kernel_rfl) ?_
  refine RunI.callP rfl (isCall_func rfl ent_14) rfl rfl rfl (fun w hm => (pure_true (sameTX_calls x71 o71 (exTA b90) (exTA_sm b90) [] W w (hm.pick (news' := trB x71 ++ []) (Pick.cnt fun x => by simp only [nC]; omega)) (exTA_ok hm)) p71)) (RunK.toA (.cons .here rfl (.cons .here rfl (.cons .here rfl (.cons .here rfl (.cons .here rfl (.cons .here rfl (.cons .here rfl (.cons .here rfl (.cons .here rfl (.cons .here rfl (.cons .here rfl (.cons .here rfl .nil)))))))))))) (.cons .here rfl (.cons .here rfl (.cons .here rfl (.cons .here rfl (.cons .here rfl (.cons .here rfl (.cons .here rfl (.cons .here rfl (.cons .here rfl (.cons .here rfl (.cons .here rfl (.cons .here rfl .nil)))))))))))) rfl ?_)
  refine va 3 rfl (Val.pure rfl) rfl rfl rfl (.cons .here rfl (.cons .here rfl (.cons .here rfl (.cons .here rfl (.cons .here rfl (.cons .here rfl (.cons .here rfl (.cons .here rfl (.cons .here rfl (.cons .here rfl (.cons .here rfl (.cons .here rfl .nil)))))))))))) rfl ?_
  refine RunA.sure (dj := 92) true rfl (by rfl) ?_
  refine va 4 rfl (Val.pure rfl) rfl rfl rfl (.cons .here rfl (.cons .here rfl (.cons .here rfl (.cons .here rfl (.cons .here rfl (.cons .here rfl (.cons .here rfl (.cons .here rfl (.cons .here rfl (.cons .here rfl (.cons .here rfl (.cons .here rfl .nil)))))))))))) rfl ?_
  refine va 5 rfl (Val.pure rfl) rfl rfl rfl (.cons .here rfl (.cons .here rfl (.cons .here rfl (.cons .here rfl (.cons .here rfl (.cons .here rfl (.cons .here rfl (.cons .here rfl (.cons .here rfl (.cons .here rfl (.cons .here rfl (.cons .here rfl .nil)))))))))))) rfl ?_
  refine va 6 rfl (Val.pure rfl) rfl rfl rfl (.cons .here rfl (.cons .here rfl (.cons .here rfl (.cons .here rfl (.cons .here rfl (.cons .here rfl (.cons .here rfl (.cons .here rfl (.cons .here rfl (.cons .here rfl (.cons .here rfl (.cons .here rfl .nil)))))))))))) rfl ?_
  refine va 7 rfl (Val.pure rfl) rfl rfl rfl (.cons .here rfl (.cons .here rfl (.cons .here rfl (.cons .here rfl (.cons .here rfl (.cons .here rfl (.cons .here rfl (.cons .here rfl (.cons .here rfl (.cons .here rfl (.cons .here rfl (.cons .here rfl .nil)))))))))))) rfl ?_
  refine RunA.sure (dj := 96) true rfl (by rfl) ?_
  refine va 8 rfl (Val.load_agg rfl (.tail _ (.tail _ (.tail _ (.tail _ (.tail _ (.tail _ (.tail _ (.tail _ (.tail _ (.head _)))))))))) ty_34 rfl) rfl rfl rfl (.cons .here rfl (.cons .here rfl (.cons .here rfl (.cons .here rfl (.cons .here rfl (.cons .here rfl (.cons .here rfl (.cons .here rfl (.cons .here rfl (.cons .here rfl (.cons .here rfl (.cons .here rfl .nil)))))))))))) rfl ?_
  refine RunA.one (i := 9) (by kernel_rfl) (by kernel_rfl) ?_
  refine RunI.callN rfl (isCall_func rfl ent_29) rfl rfl rfl (fun w hm => cabinet_calls w) (fun b98 => (RunK.toA (.cons .here rfl (.cons .here rfl (.cons .here rfl (.cons .here rfl (.cons .here rfl (.cons .here rfl (.cons .here rfl (.cons .here rfl (.cons .here rfl (.cons .here rfl (.cons .here rfl (.cons .here rfl (.cons .here rfl (.cons .here rfl .nil)))))))))))))) (.cons (.there (.there .here)) rfl (.cons (.there (.there .here)) rfl (.cons (.there (.there .here)) rfl (.cons (.there (.there .here)) rfl (.cons (.there (.there .here)) rfl (.cons (.there (.there .here)) rfl (.cons (.there (.there .here)) rfl (.cons (.there (.there .here)) rfl (.cons (.there (.there .here)) rfl (.cons (.there (.there .here)) rfl (.cons (.there (.there .here)) rfl (.cons (.there (.there .here)) rfl .nil)))))))))))) rfl ?_))
  refine RunA.one (i := 10) (by kernel_rfl) (by kernel_rfl) ?_
  refine RunI.callP rfl (isCall_func rfl ent_16) rfl rfl rfl (fun w hm => (pure_true (sameCX_calls x76 o76 (exCA b98) (exCA_s b98) [] W w (hm.pick (news' := cbB x76 ++ []) (Pick.cnt fun x => by simp only [nC]; omega)) (exCA_ok hm)) p76)) (RunK.toA (.cons .here rfl (.cons .here rfl (.cons .here rfl (.cons .here rfl (.cons .here rfl (.cons .here rfl (.cons .here rfl (.cons .here rfl (.cons .here rfl (.cons .here rfl (.cons .here rfl (.cons .here rfl (.cons .here rfl (.cons .here rfl .nil)))))))))))))) (.cons .here rfl (.cons .here rfl (.cons .here rfl (.cons .here rfl (.cons .here rfl (.cons .here rfl (.cons .here rfl (.cons .here rfl (.cons .here rfl (.cons .here rfl (.cons .here rfl (.cons .here rfl (.cons .here rfl (.cons .here rfl .nil)))))))))))))) rfl ?_)
  refine va 11 rfl (Val.pure rfl) rfl rfl rfl (.cons .here rfl (.cons .here rfl (.cons .here rfl (.cons .here rfl (.cons .here rfl (.cons .here rfl (.cons .here rfl (.cons .here rfl (.cons .here rfl (.cons .here rfl (.cons .here rfl (.cons .here rfl (.cons .here rfl (.cons .here rfl .nil)))))))))))))) rfl ?_
  refine va 12 rfl (Val.pure rfl) rfl rfl rfl (.cons .here rfl (.cons .here rfl (.cons .here rfl (.cons .here rfl (.cons .here rfl (.cons .here rfl (.cons .here rfl (.cons .here rfl (.cons .here rfl (.cons .here rfl (.cons .here rfl (.cons .here rfl (.cons .here rfl (.cons .here rfl .nil)))))))))))))) rfl ?_
  refine RunA.sure (dj := 101) true rfl (by rfl) ?_
  refine va 13 rfl (Val.pure rfl) rfl rfl rfl (.cons .here rfl (.cons .here rfl (.cons .here rfl (.cons .here rfl (.cons .here rfl (.cons .here rfl (.cons .here rfl (.cons .here rfl (.cons .here rfl (.cons .here rfl (.cons .here rfl (.cons .here rfl (.cons .here rfl (.cons .here rfl .nil)))))))))))))) rfl ?_
  refine va 14 rfl (Val.pure rfl) rfl rfl rfl (.cons .here rfl (.cons .here rfl (.cons .here rfl (.cons .here rfl (.cons .here rfl (.cons .here rfl (.cons .here rfl (.cons .here rfl (.cons .here rfl (.cons .here rfl (.cons .here rfl (.cons .here rfl (.cons .here rfl (.cons .here rfl .nil)))))))))))))) rfl ?_
  refine va 15 rfl (Val.pure rfl) rfl rfl rfl (.cons .here rfl (.cons .here rfl (.cons .here rfl (.cons .here rfl (.cons .here rfl (.cons .here rfl (.cons .here rfl (.cons .here rfl (.cons .here rfl (.cons .here rfl (.cons .here rfl (.cons .here rfl (.cons .here rfl (.cons .here rfl .nil)))))))))))))) rfl ?_
  refine va 16 rfl (Val.pure rfl) rfl rfl rfl (.cons .here rfl (.cons .here rfl (.cons .here rfl (.cons .here rfl (.cons .here rfl (.cons .here rfl (.cons .here rfl (.cons .here rfl (.cons .here rfl (.cons .here rfl (.cons .here rfl (.cons .here rfl (.cons .here rfl (.cons .here rfl .nil)))))))))))))) rfl ?_
  refine RunA.sure (dj := 105) true rfl (by rfl) ?_
  refine va 17 rfl (Val.load_agg rfl (.tail _ (.tail _ (.tail _ (.tail _ (.tail _ (.tail _ (.tail _ (.tail _ (.tail _ (.tail _ (.head _))))))))))) ty_41 rfl) rfl rfl rfl (.cons .here rfl (.cons .here rfl (.cons .here rfl (.cons .here rfl (.cons .here rfl (.cons .here rfl (.cons .here rfl (.cons .here rfl (.cons .here rfl (.cons .here rfl (.cons .here rfl (.cons .here rfl (.cons .here rfl (.cons .here rfl .nil)))))))))))))) rfl ?_
  refine RunA.one (i := 18) (by kernel_rfl) (by kernel_rfl) ?_
  refine RunI.callN rfl (isCall_func rfl ent_30) rfl rfl rfl (fun w hm => royal_calls w) (fun b107 => (RunK.toA (.cons .here rfl (.cons .here rfl (.cons .here rfl (.cons .here rfl (.cons .here rfl (.cons .here rfl (.cons .here rfl (.cons .here rfl (.cons .here rfl (.cons .here rfl (.cons .here rfl (.cons .here rfl (.cons .here rfl (.cons .here rfl (.cons .here rfl (.cons .here rfl (.cons .here rfl (.cons .here rfl (.cons .here rfl (.cons .here rfl .nil)))))))))))))))))))) (.cons (.there (.there (.there (.there (.there (.there .here)))))) rfl (.cons (.there (.there (.there (.there (.there (.there .here)))))) rfl (.cons (.there (.there (.there (.there (.there (.there .here)))))) rfl (.cons (.there (.there (.there (.there (.there (.there .here)))))) rfl (.cons (.there (.there (.there (.there (.there (.there .here)))))) rfl (.cons (.there (.there (.there (.there (.there (.there .here)))))) rfl (.cons (.there (.there (.there (.there (.there (.there .here)))))) rfl (.cons (.there (.there (.there (.there (.there (.there .here)))))) rfl (.cons (.there (.there (.there (.there (.there (.there .here)))))) rfl (.cons (.there (.there (.there (.there (.there (.there .here)))))) rfl (.cons (.there (.there (.there (.there (.there (.there .here)))))) rfl (.cons (.there (.there (.there (.there (.there (.there .here)))))) rfl (.cons (.there (.there (.there (.there (.there (.there .here)))))) rfl (.cons (.there (.there (.there (.there (.there (.there .here)))))) rfl .nil)))))))))))))) rfl ?_))
  refine RunA.one (i := 19) (by kernel_rfl) (by kernel_rfl) ?_
  refine RunI.callP rfl (isCall_func rfl ent_18) rfl rfl rfl (fun w hm => (pure_true (sameRX_calls x81 o81 (exRA b107) (exRA_sm b107) [] W w (hm.pick (news' := ryB x81 ++ []) (Pick.cnt fun x => by simp only [nC]; omega)) (exRA_ok hm)) p81)) (RunK.toA (.cons .here rfl (.cons .here rfl (.cons .here rfl (.cons .here rfl (.cons .here rfl (.cons .here rfl (.cons .here rfl (.cons .here rfl (.cons .here rfl (.cons .here rfl (.cons .here rfl (.cons .here rfl (.cons .here rfl (.cons .here rfl (.cons .here rfl (.cons .here rfl (.cons .here rfl (.cons .here rfl (.cons .here rfl (.cons .here rfl .nil)))))))))))))))))))) (.cons .here rfl (.cons .here rfl (.cons .here rfl (.cons .here rfl (.cons .here rfl (.cons .here rfl (.cons .here rfl (.cons .here rfl (.cons .here rfl (.cons .here rfl (.cons .here rfl (.cons .here rfl (.cons .here rfl (.cons .here rfl (.cons .here rfl (.cons .here rfl (.cons .here rfl (.cons .here rfl (.cons .here rfl (.cons .here rfl .nil)))))))))))))))))))) rfl ?_)
  refine va 20 rfl (Val.pure rfl) rfl rfl rfl (.cons .here rfl (.cons .here rfl (.cons .here rfl (.cons .here rfl (.cons .here rfl (.cons .here rfl (.cons .here rfl (.cons .here rfl (.cons .here rfl (.cons .here rfl (.cons .here rfl (.cons .here rfl (.cons .here rfl (.cons .here rfl (.cons .here rfl (.cons .here rfl (.cons .here rfl (.cons .here rfl (.cons .here rfl (.cons .here rfl .nil)))))))))))))))))))) rfl ?_
  refine va 21 rfl (Val.pure rfl) rfl rfl rfl (.cons .here rfl (.cons .here rfl (.cons .here rfl (.cons .here rfl (.cons .here rfl (.cons .here rfl (.cons .here rfl (.cons .here rfl (.cons .here rfl (.cons .here rfl (.cons .here rfl (.cons .here rfl (.cons .here rfl (.cons .here rfl (.cons .here rfl (.cons .here rfl (.cons .here rfl (.cons .here rfl (.cons .here rfl (.cons .here rfl .nil)))))))))))))))))))) rfl ?_
  refine RunA.sure (dj := 110) true rfl (by rfl) ?_
  refine va 22 rfl (Val.pure rfl) rfl rfl rfl (.cons .here rfl (.cons .here rfl (.cons .here rfl (.cons .here rfl (.cons .here rfl (.cons .here rfl (.cons .here rfl (.cons .here rfl (.cons .here rfl (.cons .here rfl (.cons .here rfl (.cons .here rfl (.cons .here rfl (.cons .here rfl (.cons .here rfl (.cons .here rfl (.cons .here rfl (.cons .here rfl (.cons .here rfl (.cons .here rfl .nil)))))))))))))))))))) rfl ?_
  refine va 23 rfl (Val.pure rfl) rfl rfl rfl (.cons .here rfl (.cons .here rfl (.cons .here rfl (.cons .here rfl (.cons .here rfl (.cons .here rfl (.cons .here rfl (.cons .here rfl (.cons .here rfl (.cons .here rfl (.cons .here rfl (.cons .here rfl (.cons .here rfl (.cons .here rfl (.cons .here rfl (.cons .here rfl (.cons .here rfl (.cons .here rfl (.cons .here rfl (.cons .here rfl .nil)))))))))))))))))))) rfl ?_
  refine va 24 rfl (Val.pure rfl) rfl rfl rfl (.cons .here rfl (.cons .here rfl (.cons .here rfl (.cons .here rfl (.cons .here rfl (.cons .here rfl (.cons .here rfl (.cons .here rfl (.cons .here rfl (.cons .here rfl (.cons .here rfl (.cons .here rfl (.cons .here rfl (.cons .here rfl (.cons .here rfl (.cons .here rfl (.cons .here rfl (.cons .here rfl (.cons .here rfl (.cons .here rfl .nil)))))))))))))))))))) rfl ?_
  refine va 25 rfl (Val.pure rfl) rfl rfl rfl (.cons .here rfl (.cons .here rfl (.cons .here rfl (.cons .here rfl (.cons .here rfl (.cons .here rfl (.cons .here rfl (.cons .here rfl (.cons .here rfl (.cons .here rfl (.cons .here rfl (.cons .here rfl (.cons .here rfl (.cons .here rfl (.cons .here rfl (.cons .here rfl (.cons .here rfl (.cons .here rfl (.cons .here rfl (.cons .here rfl .nil)))))))))))))))))))) rfl ?_
  refine RunA.sure (dj := 114) true rfl (by rfl) ?_
  refine va 26 rfl (Val.load_agg rfl (.tail _ (.tail _ (.tail _ (.tail _ (.tail _ (.tail _ (.tail _ (.tail _ (.tail _ (.tail _ (.tail _ (.tail _ (.tail _ (.tail _ (.tail _ (.head _)))))))))))))))) ty_48 rfl) rfl rfl rfl (.cons .here rfl (.cons .here rfl (.cons .here rfl (.cons .here rfl (.cons .here rfl (.cons .here rfl (.cons .here rfl (.cons .here rfl (.cons .here rfl (.cons .here rfl (.cons .here rfl (.cons .here rfl (.cons .here rfl (.cons .here rfl (.cons .here rfl (.cons .here rfl (.cons .here rfl (.cons .here rfl (.cons .here rfl (.cons .here rfl .nil)))))))))))))))))))) rfl ?_
  refine RunA.one (i := 27) (by kernel_rfl) (by kernel_rfl) ?_
  refine RunI.callN rfl (isCall_func rfl ent_31) rfl rfl rfl (fun w hm => prints_calls w) (fun b116 => (RunK.toA (.cons .here rfl (.cons .here rfl (.cons .here rfl (.cons .here rfl (.cons .here rfl (.cons .here rfl (.cons .here rfl (.cons .here rfl (.cons .here rfl (.cons .here rfl (.cons .here rfl (.cons .here rfl (.cons .here rfl (.cons .here rfl (.cons .here rfl (.cons .here rfl (.cons .here rfl (.cons .here rfl (.cons .here rfl (.cons .here rfl (.cons .here rfl .nil))))))))))))))))))))) (.cons (.there .here) rfl (.cons (.there .here) rfl (.cons (.there .here) rfl (.cons (.there .here) rfl (.cons (.there .here) rfl (.cons (.there .here) rfl (.cons (.there .here) rfl (.cons (.there .here) rfl (.cons (.there .here) rfl (.cons (.there .here) rfl (.cons (.there .here) rfl (.cons (.there .here) rfl (.cons (.there .here) rfl (.cons (.there .here) rfl (.cons (.there .here) rfl (.cons (.there .here) rfl (.cons (.there .here) rfl (.cons (.there .here) rfl (.cons (.there .here) rfl (.cons (.there .here) rfl .nil)))))))))))))))))))) rfl ?_))
  refine RunA.toB (by kernel_rfl) ?_
  refine RunB.one (i := 28) (by kernel_rfl) ?_
  refine RunI.callP rfl (isCall_func rfl ent_21) rfl rfl rfl (fun w hm => (pure_true (samePX_calls x86 o86 (by have h9 := congrArg (fun q : Ps => q.cards.length) p86; have h8 : x86.cards.2.length = 1 := h9; omega) (exPA b116) (by show (1 : Nat) ≤ _; decide) [] W w (hm.pick (news' := ptB x86.cards ++ []) (Pick.cnt fun x => by simp only [nC]; omega)) (exPA_ok hm)) p86)) (RunK.toB ?_)
  refine RunB.one (i := 29) (by kernel_rfl) ?_
  refine RunI.val rfl (Val.pure rfl) rfl rfl rfl (RunK.toB ?_)
  refine RunB.one (i := 30) (by kernel_rfl) ?_
  refine RunI.val rfl (Val.pure rfl) rfl rfl rfl (RunK.toB ?_)
  refine RunB.sure (dj := 119) true rfl (by rfl) ?_
  refine RunB.one (i := 31) (by kernel_rfl) ?_
  refine RunI.val rfl (Val.pure rfl) rfl rfl rfl (RunK.toB ?_)
  refine RunB.one (i := 32) (by kernel_rfl) ?_
  refine RunI.val rfl (Val.pure rfl) rfl rfl rfl (RunK.toB ?_)
  refine RunB.one (i := 33) (by kernel_rfl) ?_
  refine RunI.val rfl (Val.pure rfl) rfl rfl rfl (RunK.toB ?_)
  refine RunB.one (i := 34) (by kernel_rfl) ?_
  refine RunI.val rfl (Val.pure rfl) rfl rfl rfl (RunK.toB ?_)
  refine RunB.done (by kernel_rfl) ?_
  refine RunE.next ?_
  refine RunC.ret ?_
  exact RunE.retP (.r1 rfl (.tmp rfl)) (by first | rfl | simp)
end Go.Proofs.YtleamcmljcdapabGreatDoor
namespace Go.Eng
open Go Go.RowKit Go.ChangeShapes Go.WideShapes Go.ChangeAt
/-- The plain wrap, with the world's shape and what is listed. -/
theorem handed_shaped_and {H : Type} {enc : TypeId × Value → H} {a : Assume} {C : Checked} {os : Os} {f : FuncId} {fn : Func} {s : ChangeSpec} {conds : List PathCond} {apart fresh handsOn again : Bool} {X : World → Array Value → Prop}
    (hX : ∀ (w w' : World) (args : Array Value), w.heap = w'.heap → X w args → X w' args)
    (own : ownKnob C.prog.godebug = none) (started : os.Started) (noInit : C.prog.inits.idxOf? f = none) (hfn : C.prog.funcs[f]? = some fn)
    (witness : ∃ (w : World) (tape : Tape) (i : Input), w.os = os ∧ (w.forCall tape i).Shaped C.prog ∧ i.vars = [] ∧ Input.okWide C.prog (w.forCall tape i) .any w.heap.size f i ∧
      ((s.pre enc C.prog fn conds apart (w.forCall tape i).memory i.args ∧ X (w.forCall tape i).memory i.args) ∧ sizedMet enc C.prog fn (OpenSpec.ofChange s) apart (w.forCall tape i).memory i.args) ∧ a.holds C.prog (lone (Frame.enter C.prog f i.args .normal) [] (w.forCall tape i)))
    (contract : ∀ (W : World) (base : Nat) (args : Array Value) (ds gs : List (DataW H)) (before : List MemPlace),
      (∀ (j : Nat) t v, fn.params[j]? = some t → args[j]? = some v → Value.okWide C.prog W .any base t v) →
      DataW.Whole enc C.prog fn.params.toList s.vars apart W args.toList ds gs before → W.ShapedOpen C.prog → X W args →
      Calls C.prog f args W fun e W' => ∃ v, e = .returned v ∧ s.post enc C.prog fn apart fresh handsOn again W args v W') :
    ReturnsInHanded a C os f .any (fun w args => (s.pre enc C.prog fn conds apart w args ∧ X w args) ∧ sizedMet enc C.prog fn (OpenSpec.ofChange s) apart w args) (s.post enc C.prog fn apart fresh handsOn again) := by
  refine returnsInHanded_of_calls own started noInit witness ?_
  intro w tape i _ hsh _ hok hpre hholds
  obtain ⟨_, _, _, fn', hfn', _, _, _, _, hval⟩ := hok
  have e : fn' = fn := Option.some.inj (hfn'.symm.trans hfn)
  subst e
  obtain ⟨⟨⟨ds, gs, before, hw, hc⟩, hx⟩, hz⟩ := hpre
  have hw' := DataW.Whole.of_heap (w' := w.forCall tape i) (by rfl) hw
  refine (contract (w.forCall tape i) w.heap.size i.args ds gs before hval hw' hsh (hX _ _ _ (by rfl) hx)).mono fun e W' ⟨v, he, hp⟩ => ?_
  subst he
  exact ChangeSpec.post_blind hp
/-- As law_contract, at one world. -/
theorem law_contractW {H : Type} {enc : TypeId × Value → H} {P : Program} {f : Func} {s : ChangeSpec} {n : Nat} {shs : List Sh} {tb : TypeId} {F : FuncId} (hl : laidOutB P = true) (hsh : f.params.toList.mapM (shapeB P n) = some shs)
    (hp : f.params.toList.all (fun t => P.readableRec t && decide (t < P.types.size)) = true) (hr : f.resultTypes = #[tb]) (hb : P.underlying tb = some .bool) (hvars : s.vars = [])
    (hfn : ∀ ds : List (DataW H), ds.length = f.params.toList.length → s.fn H (ds ++ []) = { results := [.lit (.bool true)], args := ds })
    {W : World} (walk : ∀ vs : List Value, RdAll W shs vs → Calls P F vs.toArray W (Pure (.bool true) W)) {base : Nat} {args : Array Value} {ds gs : List (DataW H)} {before : List MemPlace} (hval : ∀ (j : Nat) t v, f.params[j]? = some t → args[j]? = some v → Value.okWide P W .any base t v)
    (hW : DataW.Whole enc P f.params.toList s.vars false W args.toList ds gs before) :
    Calls P F args W fun e W' => ∃ v, e = .returned v ∧ s.post enc P f false true false false W args v W' := by
  have hW' := hW
  obtain ⟨p, q, hA, hV, rfl, hfz, hnd⟩ := hW
  rw [hvars] at hV
  obtain ⟨rfl, rfl⟩ := trodVars_none hV
  have hrd : RdAll W shs args.toList := rdAll_of hsh (fun j t v hj hv => hval j t v (by simpa using hj) (by simpa using hv)) hA
  have hlen : ds.length = f.params.toList.length := by
    clear hW' hval hrd hfn hp hsh hfz hnd hV
    generalize f.params.toList = ts at hA
    generalize args.toList = vs at hA
    induction ts generalizing vs ds p with
    | nil => obtain ⟨_, rfl, _⟩ := trodAll_nil hA; rfl
    | cons t ts ih =>
      obtain ⟨v, vs', d, ds', p, q, rfl, rfl, rfl, h0, hr⟩ := trodAll_cons hA
      simp [ih _ _ hr]
  refine (walk args.toList hrd).mono fun e W' ⟨he, hm⟩ => ?_
  subst he
  have bel := hm.below
  refine ⟨_, rfl, ds, [], p ++ [], [], p, [], hW', ?_, ?_, ?_, bel.frame _, fun h => by cases h⟩
  · rw [hfn ds hlen, hr]
    exact trodAll_mk1 (shut_bool hb _)
  · rw [hfn ds hlen]
    exact trodAll_below hl bel hp hA
  · rw [hvars, hfn ds hlen]
    rfl
/-- A listed error: the variable holds an interface value. -/
theorem laid_iface {P : Program} {n nm : String} {d : DataW Unit} {r : List (String × DataW Unit)} {W : World} {g : Nat} {ti : TypeId} {ms : Array (String × TypeId)}
    (h : laidMet P ((n, .iface nm d) :: r) W) (hg : P.globalNamed n = some g) (ht : (P.globals[g]?).map (·.type) = some ti) (hi : P.underlying ti = some (.interface ms)) : ∃ te pe, W.cell? ⟨g, 0, none⟩ = some (.iface te pe) := by
  obtain ⟨ps, ⟨g0, t0, cs0, f0, p0, q0, hg0, ht0, hv0, hd0, _, e0⟩, _, hrows⟩ := h
  obtain rfl := Option.some.inj (hg.symm.trans hg0)
  obtain rfl := Option.some.inj (ht.symm.trans ht0)
  obtain ⟨f', u, v, hcs, _, _⟩ := iface_of_trod hi hd0
  have h1 := World.var?_cell hg0 hv0 0
  have e : cs0 = #[.iface u v] := by
    obtain ⟨l⟩ := cs0
    simp only at hcs
    rw [hcs]
  rw [e] at h1
  exact ⟨u, v, by simpa using h1⟩
end Go.Eng
namespace Go.Proofs.YtleamcmljcdapabGreatDoor
open Go Go.Eng Go.Bk Go.RowKit

abbrev laidL : List (String × DataW Unit) := [("math/bits.deBruijn32tab", Rows.laid_math_bits_deBruijn32tab), ("math/bits.deBruijn64tab", Rows.laid_math_bits_deBruijn64tab), ("internal/strconv.uint64pow10", Rows.laid_internal_strconv_uint64pow10), ("unicode/utf8.acceptRanges", Rows.laid_unicode_utf8_acceptRanges), ("strconv.ErrRange", Rows.laid_strconv_ErrRange), ("strconv.ErrSyntax", Rows.laid_strconv_ErrSyntax), ("unicode/utf8.first", Rows.laid_unicode_utf8_first)]
theorem gMax : ((begin Tryz.prog (fun _ _ => 0) default).world.heap[0]?).bind Obj.row? = some (#[.int .i64 0], 3) := by kernel_rfl
theorem lw_of {W : World} (hsh : W.ShapedOpen Tryz.prog) (hL : laidMetH Tryz.prog laidL W) : Lw Tryz.prog W := by
  rw [MakeChecks.laidMetH_plain _ _ _ (by kernel_rfl)] at hL
  have h3 := hL.tail.tail
  have h5 := h3.tail.tail
  obtain ⟨te, pe, h1⟩ := laid_iface h5 (g := 3) (by kernel_rfl) (by kernel_rfl) Tryz.underlying141
  obtain ⟨te2, pe2, h2⟩ := laid_iface h5.tail (g := 2) (by kernel_rfl) (by kernel_rfl) Tryz.underlying141
  exact ⟨cell_of_shapedOpen_int hsh (by decide) gMax rfl (by kernel_rfl) (by kernel_rfl) Tryz.underlying3,
    Lib.tabIs_of_head (g := 1) (t := 235) (n := 20) (e := 221) (by kernel_rfl) (by kernel_rfl) (by kernel_rfl) (by kernel_rfl) (by kernel_rfl) (by kernel_rfl) h3,
    ⟨_, h2, .inr ⟨_, _, rfl⟩⟩, ⟨_, h1, .inr ⟨_, _, rfl⟩⟩⟩
theorem laid_fits (os : Os) : (World.holding Tryz.prog os ⟨#[], #[], []⟩).layFits Tryz.prog laidL [] = true := by kernel_rfl
theorem laid_ifaces (os : Os) : (World.holding Tryz.prog os ⟨#[], #[], []⟩).layIfaces Tryz.prog laidL (World.laidAll Tryz.prog os laidL) = true := by kernel_rfl
end Go.Proofs.YtleamcmljcdapabGreatDoor
namespace Go.Bk
open Go Go.Eng Go.RowKit
/-- The bytes that are written, if any. -/
def wpS (p : Ps) : Str := if printsX p = true then psS p else []
theorem wpS_ok {p : Ps} (h : printsX p = true) : wpS p = psS p := if_pos h
theorem wpS_no {p : Ps} (h : printsX p = false) : wpS p = [] := if_neg (by simp [h])
abbrev wpE (p : Ps) : Int := if printsX p = true then 0 else 1
theorem body_er {o : Str} {k : Int} (h : bodyP o = .error k) : k = 8 := by
  unfold bodyP at h
  split at h
  · cases h; rfl
  · split at h
    · cases h; rfl
    · split at h
      · split at h <;> cases h
        rfl
      · cases h; rfl
theorem rdp_say {s : Str} {x : PsX} {e : Int} (h : RdX (readPs s) PsX.pl PsXOk zeroPX (x, e)) : PsXOk x ∧ ((4096 < s.length ∧ e = 3 ∧ x = zeroPX) ∨ (¬ 4096 < s.length ∧ (e = 8 ∨ e = 11) ∧ x = zeroPX) ∨ (¬ 4096 < s.length ∧ e = 0 ∧ printsX x.pl = true ∧ psS x.pl = s)) := by
  rcases h with ⟨t, h1, h2, h3, h4⟩ | ⟨k, h1, h2⟩
  · obtain ⟨h5, h6⟩ := readPs_inv h1
    dsimp only at h2 h3 h4
    subst h2
    have h8 : ¬ 4096 < s.length := fun h7 => (by unfold readPs at h1; rw [if_pos h7] at h1; cases h1)
    exact ⟨h4, .inr (.inr ⟨h8, h3, h5, h6⟩)⟩
  · cases h2
    refine ⟨ol_nil, ?_⟩
    by_cases h7 : 4096 < s.length
    · unfold readPs at h1
      rw [if_pos h7] at h1
      cases h1
      exact .inl ⟨h7, rfl, rfl⟩
    · refine .inr (.inl ⟨h7, ?_, rfl⟩)
      unfold readPs at h1
      rw [if_neg h7] at h1
      split at h1
      · cases h1; exact .inr rfl
      · split at h1
        · refine .inl ?_
          exact body_er h1
        · cases h1; exact .inr rfl
theorem rdp_zero {s : Str} {x : PsX} {e : Int} (h : (4096 < s.length ∧ e = 3 ∧ x = zeroPX) ∨ (¬ 4096 < s.length ∧ (e = 8 ∨ e = 11) ∧ x = zeroPX) ∨ (¬ 4096 < s.length ∧ e = 0 ∧ printsX x.pl = true ∧ psS x.pl = s)) :
    (e = 0 → printsX x.pl = true ∧ psS x.pl = s) ∧ (e ≠ 0 → x = zeroPX) ∧ x.cards.2.length ≤ 10000 := by
  rcases h with ⟨_, rfl, rfl⟩ | ⟨_, rfl | rfl, rfl⟩ | ⟨_, rfl, h2, h3⟩
  · exact ⟨fun h => absurd h (by decide), fun _ => rfl, Nat.zero_le _⟩
  · exact ⟨fun h => absurd h (by decide), fun _ => rfl, Nat.zero_le _⟩
  · exact ⟨fun h => absurd h (by decide), fun _ => rfl, Nat.zero_le _⟩
  · refine ⟨fun _ => ⟨h2, h3⟩, fun h => absurd rfl h, ?_⟩
    have h4 := (prints_pl h2).1
    have h5 : x.pl.cards.length = x.cards.2.length := rfl
    omega
end Go.Bk
namespace Go.Proofs.YtleamcmljcdapabGreatDoor
open Go Go.Eng Go.Bk Go.RowKit

theorem writePrints_any (p : PsA) (hl : p.cards.l.length ≤ 10000) (W : World) (hP : p.cards.ok Pt.cells 5 W) : Calls Tryz.prog 19 #[p.v] W (News (fun z : { y : Eng.Own // OwnOk 1 y (wpS p.pl).length (byc (wpS p.pl)) } => .tuple #[ownV z.1 (wpS p.pl).length, .int .i64 (wpE p.pl)]) (fun z => ownB 5 z.1 (byc (wpS p.pl)) ++ []) W) := by
  suffices h1 : Calls Tryz.prog 19 #[p.v] W (Grow W [] (fun y : Eng.Own => .tuple #[ownV y (wpS p.pl).length, .int .i64 (wpE p.pl)]) (fun y => ownB 5 y (byc (wpS p.pl)) ++ []) (fun y => OwnOk 1 y (wpS p.pl).length (byc (wpS p.pl)))) from grow_news h1
  cases h : printsX p.pl with
  | true =>
    have e : wpE p.pl = 0 := if_pos h
    rw [e, wpS_ok h]
    exact writePrints_ok p W hP h
  | false =>
    have e : wpE p.pl = 1 := if_neg (by simp [h])
    rw [e, wpS_no h]
    refine calls_mono (writePrints_no p hl W hP h) ?_
    rintro e w' ⟨rfl, hm⟩
    exact ⟨none, ol_nil (α := UInt8) (f := byC) (sz := 1), rfl, hm⟩
end Go.Proofs.YtleamcmljcdapabGreatDoor
namespace Go.Bk
open Go Go.Eng Go.RowKit
abbrev iSh : Sh := .int .i64
abbrev spSh : Sh := .st [iSh, iSh]
abbrev ptSh : Sh := .st [spSh, spSh, iSh]
abbrev trSh : Sh := .st [iSh, .sl spSh, .sl (.sl spSh), .sl spSh, .sl spSh]
abbrev psSh : Sh := .st [.sl ptSh, spSh, spSh]
theorem rd_cons {w : World} {s : Sh} {l : List Sh} {cs : List Value} (h : Rd w (.st (s :: l)) cs) : ∃ a b, cs = a ++ b ∧ Rd w s a ∧ Rd w (.st l) b := by
  cases h with
  | recS h1 h2 => exact ⟨_, _, rfl, h1, h2⟩
theorem rd_nil {w : World} {cs : List Value} (h : Rd w (.st []) cs) : cs = [] := by cases h; rfl
theorem rd_int {w : World} {cs : List Value} (h : Rd w iSh cs) : ∃ n : Int, cs = [.int .i64 n] ∧ True := by cases h; exact ⟨_, rfl, trivial⟩
theorem rd_str {w : World} {cs : List Value} (h : Rd w .str cs) : ∃ s : Str, cs = [.string (bs s)] ∧ True := by
  cases h with
  | @str s _ => exact ⟨s.data.toList, by simp [bs], trivial⟩
theorem rd_byte {w : World} {cs : List Value} (h : Rd w (.int .u8) cs) : ∃ b : UInt8, cs = byC b ∧ True := by
  cases h with
  | @int _ n h =>
    have h2 : 0 ≤ n ∧ n ≤ 255 := by
      have h3 : (decide (IntKind.u8.min ≤ n) && decide (n ≤ IntKind.u8.max)) = true := h
      rw [Bool.and_eq_true, decide_eq_true_eq, decide_eq_true_eq] at h3
      exact h3
    refine ⟨UInt8.ofNat n.toNat, ?_, trivial⟩
    show [Value.int .u8 n] = [Value.int .u8 _]
    congr 2
    simp only [UInt8.toNat_ofNat']
    omega
theorem rd_sp {w : World} {cs : List Value} (h : Rd w spSh cs) : ∃ s : Sp, cs = s.cells ∧ True := by
  obtain ⟨a, b, rfl, h1, h⟩ := rd_cons h
  obtain ⟨c, d, rfl, h2, h⟩ := rd_cons h
  obtain rfl := rd_nil h
  obtain ⟨n, rfl, _⟩ := rd_int h1
  obtain ⟨m, rfl, _⟩ := rd_int h2
  exact ⟨⟨n, m⟩, rfl, trivial⟩
theorem rd_pt {w : World} {cs : List Value} (h : Rd w ptSh cs) : ∃ s : Pt, cs = s.cells ∧ True := by
  obtain ⟨a, b, rfl, h1, h⟩ := rd_cons h
  obtain ⟨c, d, rfl, h2, h⟩ := rd_cons h
  obtain ⟨e, f, rfl, h3, h⟩ := rd_cons h
  obtain rfl := rd_nil h
  obtain ⟨n, rfl, _⟩ := rd_sp h1
  obtain ⟨m, rfl, _⟩ := rd_sp h2
  obtain ⟨k, rfl, _⟩ := rd_int h3
  exact ⟨⟨n, m, k⟩, rfl, trivial⟩
theorem rowsH_of {α : Type} {f : α → List Value} {p : α → Prop} : ∀ {xs : List (List Value)}, (∀ x ∈ xs, ∃ a, x = f a ∧ p a) → ∃ l : List α, xs = l.map f ∧ ∀ a ∈ l, p a
  | [], _ => ⟨[], rfl, fun a h => by cases h⟩
  | x :: xs, h => by
    obtain ⟨a, rfl, ha⟩ := h x (by simp)
    obtain ⟨l, rfl, hl⟩ := rowsH_of (xs := xs) (fun y hy => h y (List.mem_cons_of_mem _ hy))
    exact ⟨a :: l, rfl, fun b hb => by rcases List.mem_cons.1 hb with rfl | hb; exact ha; exact hl b hb⟩
/-- What is known of a slice that comes in. -/
structure SaIn {α : Type} (f : α → List Value) (sz : Nat) (p : α → Prop) (w : World) (s : SA α) : Prop where
  ok : s.ok f sz w
  each : ∀ a ∈ s.l, p a
  cap : s.l.length ≤ s.c
  few : s.c ≤ maxLen
  nq : s.q = none → s.l.length = 0 ∧ s.c = 0
theorem rd_sa {α : Type} {f : α → List Value} {p : α → Prop} {w : World} {e : Sh} (hx : ∀ {x}, Rd w e x → ∃ a, x = f a ∧ p a) {cs : List Value} (h : Rd w (.sl e) cs) : ∃ s : SA α, cs = [s.v] ∧ SaIn f e.size p w s := by
  cases h with
  | slNil => exact ⟨⟨[], none, 0, 0, 0⟩, rfl, ⟨Sl.emp, (fun a h => by cases h), Nat.le_refl _, Nat.zero_le _, fun _ => ⟨rfl, rfl⟩⟩⟩
  | sl hs hl hc h =>
    obtain ⟨l, rfl, hl2⟩ := rowsH_of (f := f) (p := p) (fun x hx' => hx (h x hx'))
    rw [List.length_map] at hl
    exact ⟨⟨l, some _, _, _, _⟩, by rw [List.length_map]; rfl, ⟨hs, hl2, hl, hc, fun h => by cases h⟩⟩
theorem rd_ps {w : World} {cs : List Value} (h : Rd w psSh cs) : ∃ t : PsA, cs = t.cells ∧ SaIn Pt.cells 5 (fun _ => True) w t.cards := by
  obtain ⟨_, _, rfl, h1, h⟩ := rd_cons h
  obtain ⟨_, _, rfl, h2, h⟩ := rd_cons h
  obtain ⟨_, _, rfl, h3, h⟩ := rd_cons h
  obtain rfl := rd_nil h
  obtain ⟨a, rfl, ha⟩ := rd_sa rd_pt h1
  obtain ⟨b, rfl, _⟩ := rd_sp h2
  obtain ⟨c, rfl, _⟩ := rd_sp h3
  exact ⟨⟨a, b, c⟩, rfl, ha⟩
theorem rd_by {w : World} {cs : List Value} (h : Rd w (.sl (.int .u8)) cs) : ∃ s : SA UInt8, cs = [s.v] ∧ SaIn byC 1 (fun _ => True) w s := rd_sa rd_byte h
def nilCA : CbA := ⟨0, ⟨[], none, 0, 0, 0⟩, 0, ⟨[], none, 0, 0, 0⟩⟩
def nilRA : RyA := ⟨⟨[], none, 0, 0, 0⟩, ⟨[], none, 0, 0, 0⟩, ⟨[], none, 0, 0, 0⟩, ⟨[], none, 0, 0, 0⟩, ⟨[], none, 0, 0, 0⟩⟩
theorem nilRA_ok (w : World) : RyOk w nilRA := ⟨Sl.emp, Sl.emp, Sl.emp, (fun x h => by cases h), Sl.emp, Sl.emp⟩
theorem Few.sm {t : TrA} {c : CbA} {r : RyA} {p : PsA} (h : Few t.pl c.pl r.pl p.pl) : TrSm t ∧ CbS c ∧ RySm r ∧ p.cards.l.length ≤ 10000 := by
  obtain ⟨h1, h2, h3, h4, h5, h6, h7, h8, h9, h10, h11, h12, h13, h14⟩ := h
  have e1 : t.pl.ways.length = t.ways.l.length := by simp [TrA.pl]
  have e2 : r.pl.shares.length = r.shares.l.length := by simp [RyA.pl]
  rw [e1] at h2
  rw [e2] at h12
  refine ⟨⟨Nat.le_trans h1 (by decide), Nat.le_trans h2 (by decide), fun x hx => Nat.le_trans (h3 x.l (List.mem_map.2 ⟨x, hx, rfl⟩)) (by decide), Nat.le_trans h4 (by decide), Nat.le_trans h5 (by decide)⟩, ⟨Nat.le_trans h6 (by decide), Nat.le_trans h7 (by decide)⟩,
    ⟨Nat.le_trans h9 (by decide), Nat.le_trans h11 (by decide), Nat.le_trans h12 (by decide), fun x hx => Nat.le_trans (h13 x.l (List.mem_map.2 ⟨x, hx, rfl⟩)) (by decide), Nat.le_trans h14 (by decide), Nat.le_trans h10 (by decide)⟩, Nat.le_trans h8 (by decide)⟩
end Go.Bk
namespace Go.Proofs.YtleamcmljcdapabGreatDoor
open Go Go.Eng
theorem ent_8 : Enters Tryz.prog 8 := enters_of Tryz.func8 (by kernel_rfl) rfl
end Go.Proofs.YtleamcmljcdapabGreatDoor
namespace Go.Proofs.YtleamcmljcdapabGreatDoor
open Go Go.Eng
theorem ent_22 : Enters Tryz.prog 22 := enters_of Tryz.func22 (by kernel_rfl) rfl
end Go.Proofs.YtleamcmljcdapabGreatDoor
namespace Go.Eng
open Go Go.RowKit
theorem pick_bring (A B C : Blks) (p : Nat × Obj) : Pick (A ++ p :: (B ++ C)) (A ++ (B ++ p :: C)) := Pick.cnt fun x => by
  simp only [List.count_append, List.count_cons]
  omega
theorem RunL.bring {P : Program} {ops : Array Oper} {Q : Exit → Act → World → Prop} {n : Nat} {l : List Oper} {r : Regs} {ds : List Deferred} {W : World} {chg news : Blks} (A B C : Blks) (p : Nat × Obj) (hn : news = A ++ (B ++ p :: C)) (h : RunL P ops Q n l r ds W chg (A ++ p :: (B ++ C))) : RunL P ops Q n l r ds W chg news := by
  subst hn
  exact RunL.keep (Sub.refl _) (pick_bring A B C p) h
theorem RunC.bring {P : Program} {Q : Exit → Act → World → Prop} {n : Nat} {c : Code} {r : Regs} {ds : List Deferred} {W : World} {chg news : Blks} (A B C : Blks) (p : Nat × Obj) (hn : news = A ++ (B ++ p :: C)) (h : RunC P Q n c r ds W chg (A ++ p :: (B ++ C))) : RunC P Q n c r ds W chg news := by
  subst hn
  exact RunC.keep (Sub.refl _) (pick_bring A B C p) h
end Go.Eng
namespace Go.Bk
open Go Go.Eng Go.RowKit
theorem sa_src {α : Type} {f : α → List Value} {sz : Nat} (hz : 0 < sz) {s : SA α} {W w : World} {news : Blks} (h : s.ok f sz W) (hm : Mem W [] news w) :
    ∀ j u, (s.l.map f).flatten[j]? = some u → ∃ ad, s.q = some ad ∧ w.cell? (ad.add j) = some u := (SA.ok.mono0 h hz hm).flat hz
theorem pt_one {l : List Pt} : ∀ u ∈ (l.map Pt.cells).flatten, u.oneCell' = true := fun u hu => by
  obtain ⟨a, ha, hu⟩ := List.mem_flatten.1 hu
  obtain ⟨x, _, rfl⟩ := List.mem_map.1 ha
  simp only [Pt.cells, List.mem_cons, List.not_mem_nil, or_false] at hu
  rcases hu with rfl | rfl | rfl | rfl | rfl <;> rfl
theorem sp_one {l : List Sp} : ∀ u ∈ (l.map Sp.cells).flatten, u.oneCell' = true := fun u hu => by
  obtain ⟨a, ha, hu⟩ := List.mem_flatten.1 hu
  obtain ⟨x, _, rfl⟩ := List.mem_map.1 ha
  simp only [Sp.cells, List.mem_cons, List.not_mem_nil, or_false] at hu
  rcases hu with rfl | rfl <;> rfl
theorem pt_len {l : List Pt} : (l.map Pt.cells).flatten.length = l.length * 5 := flat_len (f := Pt.cells) (sz := 5) (fun _ => rfl) l
theorem sp_len {l : List Sp} : (l.map Sp.cells).flatten.length = l.length * 2 := flat_len (f := Sp.cells) (sz := 2) (fun _ => rfl) l
theorem few_t {t : Tr} {p : Ps} (h : greatX t nilCA.pl nilRA.pl p = false) : t.fr.length ≤ 40 ∧ p.cards.length ≤ 40 := ⟨(few_of h).fr, (few_of h).cards⟩
theorem ownB_some {e : TypeId} {b c : Nat} {r xs : List Value} : ownB e (some (b, c, r)) xs = [(b, .cells (xs ++ r).toArray e (0, 0))] := rfl
theorem rdx_okd {α β : Type} {x : Except Int α} {pl : β → α} {ok : β → Prop} {z0 z : β} {e : Int} (h : RdX x pl ok z0 (z, e)) (h0 : ok z0) : ok z := by
  rcases h with ⟨t, _, _, _, h4⟩ | ⟨k, _, h2⟩
  · exact h4
  · cases h2; exact h0
theorem rdx_same {α β : Type} {x : Except Int α} {pl : β → α} {ok : β → Prop} {z0 z y : β} {e f : Int} (h : RdX x pl ok z0 (z, e)) (h2 : RdX x pl ok z0 (y, f)) : pl z = pl y ∧ e = f := by
  rcases h with ⟨t, h1, h3, h4, _⟩ | ⟨k, h1, h3⟩
  · rcases h2 with ⟨u, g1, g3, g4, _⟩ | ⟨m, g1, g3⟩
    · rw [h1] at g1
      cases g1
      exact ⟨h3.trans g3.symm, h4.trans g4.symm⟩
    · rw [h1] at g1; cases g1
  · rcases h2 with ⟨u, g1, g3, g4, _⟩ | ⟨m, g1, g3⟩
    · rw [h1] at g1; cases g1
    · rw [h1] at g1
      cases g1
      cases h3
      cases g3
      exact ⟨rfl, rfl⟩
theorem rdp_eq {s : Str} {y y2 : Eng.Own} {l l2 : List Pt} {a b a2 b2 : Sp} {e f : Int} (h : RdX (readPs s) PsX.pl PsXOk zeroPX (⟨(y, l), a, b⟩, e)) (h2 : RdX (readPs s) PsX.pl PsXOk zeroPX (⟨(y2, l2), a2, b2⟩, f)) : l = l2 ∧ e = f := by
  have h3 := rdx_same h h2
  exact ⟨congrArg Ps.cards h3.1, h3.2⟩
theorem rdt_eq {x : Except Int Tr} {n : Nat} {y y2 : Eng.Own} {l l2 : List Sp} {d d2 : Int} {a b a2 b2 : OL Sp} {c c2 : OL (OL Sp)} {e f : Int} (h : RdX x TrX.pl (TrXOk n) zeroTX (⟨d, a, c, (y, l), b⟩, e)) (h2 : RdX x TrX.pl (TrXOk n) zeroTX (⟨d2, a2, c2, (y2, l2), b2⟩, f)) : l = l2 ∧ e = f := by
  have h3 := rdx_same h h2
  exact ⟨congrArg Tr.stay h3.1, h3.2⟩
theorem wpS_len (p : Ps) : (wpS p).length ≤ 10000 := by
  cases h : printsX p with
  | true => rw [wpS_ok h]; exact Nat.le_trans (psS_len h).2 (by decide)
  | false => rw [wpS_no h]; exact Nat.zero_le _
theorem rd_trq {w : World} {cs : List Value} (h : Rd w trSh cs) : ∃ t : TrA, cs = t.cells ∧ TrOk w t ∧ t.ways.l.length ≤ maxLen ∧ (t.fr.q = none → t.fr.l.length = 0 ∧ t.fr.c = 0) := by
  obtain ⟨_, _, rfl, h1, h⟩ := rd_cons h
  obtain ⟨_, _, rfl, h2, h⟩ := rd_cons h
  obtain ⟨_, _, rfl, h3, h⟩ := rd_cons h
  obtain ⟨_, _, rfl, h4, h⟩ := rd_cons h
  obtain ⟨_, _, rfl, h5, h⟩ := rd_cons h
  obtain rfl := rd_nil h
  obtain ⟨n, rfl, _⟩ := rd_int h1
  obtain ⟨a, rfl, ha⟩ := rd_sa rd_sp h2
  obtain ⟨b, rfl, hb⟩ := rd_sa (f := SA.cell) (p := fun s => SaIn Sp.cells 2 (fun _ => True) w s) (rd_sa rd_sp) h3
  obtain ⟨c, rfl, hc⟩ := rd_sa rd_sp h4
  obtain ⟨d, rfl, hd⟩ := rd_sa rd_sp h5
  exact ⟨⟨n, a, b, c, d⟩, rfl, ⟨ha.ok, hb.ok, fun x hx => (hb.each x hx).ok, hc.ok, hd.ok, hb.nq⟩, Nat.le_trans hb.cap hb.few, ha.nq⟩
theorem paste_byte {l : Str} {k : Nat} (hk : k < l.length) {c : UInt8} {t : List Value} : paste (byc l ++ t) (0 + (k : Int).toNat * 1) [byteV c] = some (byc (l.set k c) ++ t) := by
  have e : 0 + (k : Int).toNat * 1 = k * 1 + 0 := by omega
  rw [e, byc_flat, byc_flat]
  exact paste_row (f := byC) (sz := 1) (fun _ => rfl) (a' := c) (j := 0) (vs := [byteV c]) (t := t) hk rfl
end Go.Bk
namespace Go.Proofs.YtleamcmljcdapabGreatDoor
open Go Go.Eng Go.Bk Go.RowKit

set_option maxHeartbeats 4000000 in
theorem owns_law (t : TrA) (p : PsA) (x : SA UInt8) (s : Str) (W : World) (hL : Lw Tryz.prog W) (hT : TrOk W t) (hTq : t.fr.q = none → t.fr.l.length = 0 ∧ t.fr.c = 0) (hn1 : t.ways.l.length ≤ 9223372036854775807) (hP : SaIn Pt.cells 5 (fun _ => True) W p.cards) (hS : SaIn byC 1 (fun _ => True) W x) : Calls Tryz.prog 5 #[t.v, p.v, x.v, .string (bs s)] W (Pure (.bool true) W) := by
  have hS1 := hS.ok
  have hP1 := hP.ok
  refine calls_start Tryz.func5 rfl rfl ?_
  refine csr ?_
  refine RunL.new (New.box rfl) rfl rfl rfl (fun b4 => ?_)
  refine RunL.new (New.box rfl) rfl rfl rfl (fun b5 => ?_)
  refine vp rfl rfl rfl rfl ?_
  refine nnx ?_
  refine RunC.seq ?_
  refine csr ?_
  refine RunL.val (Val.load_agg rfl (.tail _ (.head _)) ty_27 rfl) rfl rfl rfl ?_
  refine RunL.val (Val.build (parts := []) rfl zero_34 places_34 rfl) rfl rfl rfl ?_
  refine RunL.val (Val.build (parts := []) rfl zero_41 places_41 rfl) rfl rfl rfl ?_
  refine RunL.val (Val.load_agg rfl (.head _) ty_48 rfl) rfl rfl rfl ?_
  refine RunL.callP (isCall_func rfl ent_22) rfl rfl rfl (fun w hm => great_calls t nilCA nilRA p w (hT.mono0 hm) (nilRA_ok w) hn1 (by decide)) ?_
  refine vp rfl rfl rfl rfl ?_
  refine RunL.orPart (dj := 35) (dp := 39) 4 rfl (fun g35 => by
    have g35' := g35
    try simp only [nH] at g35'
    refine vp rfl rfl rfl rfl ?_
    refine RunL.val (Val.len_sl rfl sl_22) rfl rfl rfl ?_
    refine vp rfl rfl rfl rfl ?_
    refine vp rfl rfl rfl rfl ?_
    exact RunL.segEnd (Sub.cons rfl (Sub.skip rfl (Sub.skip rfl (Sub.skip rfl (Sub.skip rfl (Sub.same rfl (by rw [g35]) (Sub.refl _))))))) (List.Sublist.refl _)
  ) (fun g35 => by
    have g35' := g35
    try simp only [nH] at g35'
    iterate 3 refine RunL.no rfl rfl rfl ?_
    refine vp rfl rfl rfl rfl ?_
    exact RunL.segEnd (Sub.cons rfl (Sub.skip rfl (Sub.skip rfl (Sub.skip rfl (Sub.skip rfl (Sub.same rfl (by rw [g35]) (Sub.refl _))))))) (List.Sublist.refl _)
  ) ?_
  refine vp rfl rfl rfl rfl ?_
  refine RunL.orPart (dj := 40) (dp := 44) 4 rfl (fun g40 => by
    have g40' := g40
    try simp only [nH] at g40'
    refine vp rfl rfl rfl rfl ?_
    refine RunL.val (Val.lenS rfl und_9) rfl rfl rfl ?_
    refine vp rfl rfl rfl rfl ?_
    refine vp rfl rfl rfl rfl ?_
    exact RunL.segEnd (Sub.cons rfl (Sub.skip rfl (Sub.skip rfl (Sub.skip rfl (Sub.skip rfl (Sub.same rfl (by rw [g40]) (Sub.refl _))))))) (List.Sublist.refl _)
  ) (fun g40 => by
    have g40' := g40
    try simp only [nH] at g40'
    iterate 3 refine RunL.no rfl rfl rfl ?_
    refine vp rfl rfl rfl rfl ?_
    exact RunL.segEnd (Sub.cons rfl (Sub.skip rfl (Sub.skip rfl (Sub.skip rfl (Sub.skip rfl (Sub.same rfl (by rw [g40]) (Sub.refl _))))))) (List.Sublist.refl _)
  ) ?_
  refine nnx ?_
  refine RunC.cond rfl ?_ ?_
  ·intro c0
   have c0' := c0; clear c0
   try simp only [nH] at c0'
   refine csr ?_
   refine RunL.callP (isCall_func rfl ent_8) rfl rfl rfl (fun w hm => alive_calls w (hL.mono hm)) ?_
   refine vp rfl rfl rfl rfl ?_
   refine nnx ?_
   refine RunC.ret ?_
   refine RunE.pass_ret ?_
   exact RunE.retP (.r1 rfl (.tmp rfl)) (by first | rfl | simp)
  intro c0
  have c0' := c0; clear c0
  try simp only [nH] at c0'
  have hfe := few_t (by simpa using c0'.1.1)
  have hl40 : p.cards.l.length ≤ 10000 := Nat.le_trans hfe.2 (by decide)
  have hf40 : t.fr.l.length ≤ 40 := hfe.1
  have hst : TrSm t := (few_of (by simpa using c0'.1.1) : Few t.pl nilCA.pl nilRA.pl p.pl).sm.1
  obtain ⟨L, hwp⟩ : ∃ L, wpS p.pl = L := ⟨_, rfl⟩
  have hLl : L.length ≤ 10000 := hwp ▸ wpS_len p.pl
  refine RunC.skip ?_
  refine RunE.next ?_
  refine RunC.seq ?_
  refine RunC.drawX (X := Eng.Own × Eng.Own × Eng.Own) 10 (n0 := [(b5, _), (b4, _)]) (fun o q => (9, ownV o.1 x.l.length) :: (10, ownV o.2.1 p.cards.l.length) :: (11, ownV o.2.2 t.fr.l.length) :: q) (fun o => []) (fun o => []) (fun o => (ownB 5 o.1 (byc x.l) ++ (ownB 69 o.2.1 (p.cards.l.map Pt.cells).flatten ++ (ownB 46 o.2.2 (t.fr.l.map Sp.cells).flatten ++ [])))) (fun o => OwnOk 1 o.1 x.l.length (byc x.l) ∧ OwnOk 5 o.2.1 p.cards.l.length (p.cards.l.map Pt.cells).flatten ∧ OwnOk 2 o.2.2 t.fr.l.length (t.fr.l.map Sp.cells).flatten) fol_ (.cons .here rfl (.cons .here rfl .nil)) (Sub.cons (t := 2) rfl (Sub.cons (t := 3) rfl (Sub.cons (t := 4) rfl (Sub.cons (t := 5) rfl (Sub.nil _))))) (.cons .here rfl (.cons .here rfl .nil)) ?_ ?_
  ·refine va 1 rfl (Val.pure rfl) rfl rfl rfl (.cons .here rfl (.cons .here rfl .nil)) rfl ?_
   refine va 4 rfl (Val.fieldAddr rfl fld_48_0) rfl rfl rfl (.cons .here rfl (.cons .here rfl .nil)) rfl ?_
   refine va 5 rfl (Val.load_one rfl (.head _) ty_44 rfl) rfl rfl rfl (.cons .here rfl (.cons .here rfl .nil)) rfl ?_
   refine va 8 rfl (Val.fieldAddr rfl fld_27_1) rfl rfl rfl (.cons .here rfl (.cons .here rfl .nil)) rfl ?_
   refine va 9 rfl (Val.load_one rfl (.tail _ (.head _)) ty_24 rfl) rfl rfl rfl (.cons .here rfl (.cons .here rfl .nil)) rfl ?_
   refine RunA.all (rs := [0, 3, 7]) (by kernel_rfl) (by simp) (by kernel_rfl) (fun m hm => ?_)
   simp only [List.mem_cons, List.not_mem_nil, or_false] at hm
   rcases hm with rfl | rfl | rfl
   ·refine RunI.new rfl (New.buildSlice0 sl_22) rfl rfl rfl (fun b46 => (RunK.toA (.cons (.there .here) rfl (.cons (.there .here) rfl .nil)) (.cons .here rfl (.cons .here rfl .nil)) rfl ?_))
    refine RunA.all (rs := [2, 3, 7]) (by kernel_rfl) (by simp) (by kernel_rfl) (fun m hm => ?_)
    simp only [List.mem_cons, List.not_mem_nil, or_false] at hm
    rcases hm with rfl | rfl | rfl
    ·refine RunI.keep (Sub.refl _) (.cons (.there .here) rfl (.cons (.there .here) rfl (.cons .here rfl .nil))) ?_
     refine RunI.append (A := [(b5, _), (b4, _)]) (B := _) (x := (some (b46, 0, []))) (ys := byc x.l) rfl ap_22 rfl rfl rfl OwnOk.empty (by rw [byc_len, Nat.mul_one]) hS.nq (fun w hm => by rw [byc_flat]; exact sa_src (by decide) hS1 hm) (byc_one x.l) (by simp only [maxLen]; omega) (by omega) rfl (fun z48 hz48 => (RunK.toA (.cons .here rfl (.cons .here rfl .nil)) (.cons .here rfl (.cons .here rfl .nil)) rfl ?_))
     refine RunA.all (rs := [3, 7]) (by kernel_rfl) (by simp) (by kernel_rfl) (fun m hm => ?_)
     simp only [List.mem_cons, List.not_mem_nil, or_false] at hm
     rcases hm with rfl | rfl
     ·refine RunI.new rfl (New.buildSlice0 sl_44) rfl rfl rfl (fun b49 => (RunK.toA (.cons (.there .here) rfl (.cons (.there .here) rfl .nil)) (.cons .here rfl (.cons .here rfl .nil)) rfl ?_))
      refine RunA.all (rs := [6, 7]) (by kernel_rfl) (by simp) (by kernel_rfl) (fun m hm => ?_)
      simp only [List.mem_cons, List.not_mem_nil, or_false] at hm
      rcases hm with rfl | rfl
      ·refine RunI.keep (Sub.refl _) (.cons (.there .here) rfl (.cons (.there .here) rfl (.cons .here rfl (Pick.refl _)))) ?_
       refine RunI.append (A := [(b5, _), (b4, _)]) (B := _) (x := (some (b49, 0, []))) (ys := (p.cards.l.map Pt.cells).flatten) rfl ap_44 rfl rfl rfl OwnOk.empty pt_len hP.nq (fun w hm => sa_src (by decide) hP1 hm) pt_one (by simp only [maxLen]; omega) (by omega) rfl (fun z52 hz52 => (RunK.toA (.cons .here rfl (.cons .here rfl .nil)) (.cons .here rfl (.cons .here rfl .nil)) rfl ?_))
       refine RunA.one (i := 7) (by kernel_rfl) (by kernel_rfl) ?_
       refine RunI.new rfl (New.buildSlice0 sl_24) rfl rfl rfl (fun b53 => (RunK.toA (.cons .here rfl (.cons .here rfl (.cons .here rfl .nil))) (.cons (.there .here) rfl (.cons (.there .here) rfl .nil)) rfl ?_))
       refine RunA.toB (by kernel_rfl) ?_
       refine RunB.one (i := 10) (by kernel_rfl) ?_
       refine RunI.keep (Sub.refl _) (.cons (.there .here) rfl (.cons (.there .here) rfl (.cons .here rfl (Pick.refl _)))) ?_
       refine RunI.append (A := [(b5, _), (b4, _)]) (B := _) (x := (some (b53, 0, []))) (ys := (t.fr.l.map Sp.cells).flatten) rfl ap_24 rfl rfl rfl OwnOk.empty sp_len hTq (fun w hm => sa_src (by decide) hT.fr hm) sp_one (by simp only [maxLen]; omega) (by omega) rfl (fun z56 hz56 => (RunK.toB ?_))
       refine RunB.one (i := 11) (by kernel_rfl) ?_
       refine RunI.val rfl (Val.pure rfl) rfl rfl rfl (RunK.toB ?_)
       refine RunB.one (i := 12) (by kernel_rfl) ?_
       refine RunI.val rfl (Val.pure rfl) rfl rfl rfl (RunK.toB ?_)
       refine RunB.one (i := 13) (by kernel_rfl) ?_
       refine RunI.val rfl (Val.pure rfl) rfl rfl rfl (RunK.toB ?_)
       refine RunB.done (by kernel_rfl) ?_
       exact RunE.joinX (z48, z52, z56) ⟨(by rw [Nat.zero_add] at hz48; exact hz48), (by rw [Nat.zero_add] at hz52; exact hz52), (by rw [Nat.zero_add] at hz56; exact hz56)⟩ rfl (Sub.consE (t := 9) rfl (by rw [Nat.zero_add]) (Sub.consE (t := 10) rfl (by rw [Nat.zero_add]) (Sub.consE (t := 11) rfl (by rw [Nat.zero_add]) (Sub.cons (t := 2) rfl (Sub.cons (t := 3) rfl (Sub.cons (t := 4) rfl (Sub.cons (t := 5) rfl (Sub.nil _)))))))) (.cons .here rfl (.cons .here rfl (Pick.cnt fun x => by simp only [nC, spB, ptB, List.nil_append, ownB_some]; omega)))
      refine RunI.new rfl (New.buildSlice0 sl_24) rfl rfl rfl (fun b53 => (RunK.toA (.cons .here rfl (.cons (.there .here) rfl (.cons (.there .here) rfl .nil))) (.cons (.there .here) rfl (.cons (.there .here) rfl .nil)) rfl ?_))
      refine RunA.one (i := 6) (by kernel_rfl) (by kernel_rfl) ?_
      refine RunI.keep (Sub.refl _) (.cons .here rfl (.cons (.there .here) rfl (.cons (.there .here) rfl (.cons .here rfl (Pick.refl _))))) ?_
      refine RunI.append (A := [(b53, _), (b5, _), (b4, _)]) (B := _) (x := (some (b49, 0, []))) (ys := (p.cards.l.map Pt.cells).flatten) rfl ap_44 rfl rfl rfl OwnOk.empty pt_len hP.nq (fun w hm => sa_src (by decide) hP1 hm) pt_one (by simp only [maxLen]; omega) (by omega) rfl (fun z52 hz52 => (RunK.toA (.cons .here rfl (.cons .here rfl (.cons .here rfl .nil))) (.cons .here rfl (.cons .here rfl (.cons .here rfl .nil))) rfl ?_))
      refine RunA.toB (by kernel_rfl) ?_
      refine RunB.one (i := 10) (by kernel_rfl) ?_
      refine RunI.keep (Sub.refl _) (.cons (.there .here) rfl (.cons (.there .here) rfl (.cons .here rfl (Pick.refl _)))) ?_
      refine RunI.append (A := [(b5, _), (b4, _)]) (B := _) (x := (some (b53, 0, []))) (ys := (t.fr.l.map Sp.cells).flatten) rfl ap_24 rfl rfl rfl OwnOk.empty sp_len hTq (fun w hm => sa_src (by decide) hT.fr hm) sp_one (by simp only [maxLen]; omega) (by omega) rfl (fun z56 hz56 => (RunK.toB ?_))
      refine RunB.one (i := 11) (by kernel_rfl) ?_
      refine RunI.val rfl (Val.pure rfl) rfl rfl rfl (RunK.toB ?_)
      refine RunB.one (i := 12) (by kernel_rfl) ?_
      refine RunI.val rfl (Val.pure rfl) rfl rfl rfl (RunK.toB ?_)
      refine RunB.one (i := 13) (by kernel_rfl) ?_
      refine RunI.val rfl (Val.pure rfl) rfl rfl rfl (RunK.toB ?_)
      refine RunB.done (by kernel_rfl) ?_
      exact RunE.joinX (z48, z52, z56) ⟨(by rw [Nat.zero_add] at hz48; exact hz48), (by rw [Nat.zero_add] at hz52; exact hz52), (by rw [Nat.zero_add] at hz56; exact hz56)⟩ rfl (Sub.consE (t := 9) rfl (by rw [Nat.zero_add]) (Sub.consE (t := 10) rfl (by rw [Nat.zero_add]) (Sub.consE (t := 11) rfl (by rw [Nat.zero_add]) (Sub.cons (t := 2) rfl (Sub.cons (t := 3) rfl (Sub.cons (t := 4) rfl (Sub.cons (t := 5) rfl (Sub.nil _)))))))) (.cons .here rfl (.cons .here rfl (Pick.cnt fun x => by simp only [nC, spB, ptB, List.nil_append, ownB_some]; omega)))
     refine RunI.new rfl (New.buildSlice0 sl_24) rfl rfl rfl (fun b53 => (RunK.toA (.cons .here rfl (.cons .here rfl (.cons .here rfl .nil))) (.cons (.there .here) rfl (.cons (.there .here) rfl .nil)) rfl ?_))
     refine RunA.one (i := 3) (by kernel_rfl) (by kernel_rfl) ?_
     refine RunI.new rfl (New.buildSlice0 sl_44) rfl rfl rfl (fun b49 => (RunK.toA (.cons (.there .here) rfl (.cons (.there .here) rfl (.cons (.there .here) rfl .nil))) (.cons .here rfl (.cons .here rfl (.cons .here rfl .nil))) rfl ?_))
     refine RunA.one (i := 6) (by kernel_rfl) (by kernel_rfl) ?_
     refine RunI.keep (Sub.refl _) (.cons (.there .here) rfl (.cons (.there .here) rfl (.cons (.there .here) rfl (.cons .here rfl (Pick.refl _))))) ?_
     refine RunI.append (A := [(b53, _), (b5, _), (b4, _)]) (B := _) (x := (some (b49, 0, []))) (ys := (p.cards.l.map Pt.cells).flatten) rfl ap_44 rfl rfl rfl OwnOk.empty pt_len hP.nq (fun w hm => sa_src (by decide) hP1 hm) pt_one (by simp only [maxLen]; omega) (by omega) rfl (fun z52 hz52 => (RunK.toA (.cons .here rfl (.cons .here rfl (.cons .here rfl .nil))) (.cons .here rfl (.cons .here rfl (.cons .here rfl .nil))) rfl ?_))
     refine RunA.toB (by kernel_rfl) ?_
     refine RunB.one (i := 10) (by kernel_rfl) ?_
     refine RunI.keep (Sub.refl _) (.cons (.there .here) rfl (.cons (.there .here) rfl (.cons .here rfl (Pick.refl _)))) ?_
     refine RunI.append (A := [(b5, _), (b4, _)]) (B := _) (x := (some (b53, 0, []))) (ys := (t.fr.l.map Sp.cells).flatten) rfl ap_24 rfl rfl rfl OwnOk.empty sp_len hTq (fun w hm => sa_src (by decide) hT.fr hm) sp_one (by simp only [maxLen]; omega) (by omega) rfl (fun z56 hz56 => (RunK.toB ?_))
     refine RunB.one (i := 11) (by kernel_rfl) ?_
     refine RunI.val rfl (Val.pure rfl) rfl rfl rfl (RunK.toB ?_)
     refine RunB.one (i := 12) (by kernel_rfl) ?_
     refine RunI.val rfl (Val.pure rfl) rfl rfl rfl (RunK.toB ?_)
     refine RunB.one (i := 13) (by kernel_rfl) ?_
     refine RunI.val rfl (Val.pure rfl) rfl rfl rfl (RunK.toB ?_)
     refine RunB.done (by kernel_rfl) ?_
     exact RunE.joinX (z48, z52, z56) ⟨(by rw [Nat.zero_add] at hz48; exact hz48), (by rw [Nat.zero_add] at hz52; exact hz52), (by rw [Nat.zero_add] at hz56; exact hz56)⟩ rfl (Sub.consE (t := 9) rfl (by rw [Nat.zero_add]) (Sub.consE (t := 10) rfl (by rw [Nat.zero_add]) (Sub.consE (t := 11) rfl (by rw [Nat.zero_add]) (Sub.cons (t := 2) rfl (Sub.cons (t := 3) rfl (Sub.cons (t := 4) rfl (Sub.cons (t := 5) rfl (Sub.nil _)))))))) (.cons .here rfl (.cons .here rfl (Pick.cnt fun x => by simp only [nC, spB, ptB, List.nil_append, ownB_some]; omega)))
    ·refine RunI.new rfl (New.buildSlice0 sl_44) rfl rfl rfl (fun b49 => (RunK.toA (.cons (.there (.there .here)) rfl (.cons (.there (.there .here)) rfl .nil)) (.cons .here rfl (.cons .here rfl .nil)) rfl ?_))
     refine RunA.all (rs := [2, 7]) (by kernel_rfl) (by simp) (by kernel_rfl) (fun m hm => ?_)
     simp only [List.mem_cons, List.not_mem_nil, or_false] at hm
     rcases hm with rfl | rfl
     ·refine RunI.keep (Sub.refl _) (.cons .here rfl (.cons (.there .here) rfl (.cons (.there .here) rfl (.cons .here rfl .nil)))) ?_
      refine RunI.append (A := [(b49, _), (b5, _), (b4, _)]) (B := _) (x := (some (b46, 0, []))) (ys := byc x.l) rfl ap_22 rfl rfl rfl OwnOk.empty (by rw [byc_len, Nat.mul_one]) hS.nq (fun w hm => by rw [byc_flat]; exact sa_src (by decide) hS1 hm) (byc_one x.l) (by simp only [maxLen]; omega) (by omega) rfl (fun z48 hz48 => (RunK.toA (.cons (.there .here) rfl (.cons (.there .here) rfl .nil)) (.cons .here rfl (.cons .here rfl .nil)) rfl ?_))
      refine RunA.all (rs := [6, 7]) (by kernel_rfl) (by simp) (by kernel_rfl) (fun m hm => ?_)
      simp only [List.mem_cons, List.not_mem_nil, or_false] at hm
      rcases hm with rfl | rfl
      ·refine RunI.keep (Sub.refl _) (.cons (.there .here) rfl (.cons (.there .here) rfl (.cons .here rfl (Pick.refl _)))) ?_
       refine RunI.append (A := [(b5, _), (b4, _)]) (B := _) (x := (some (b49, 0, []))) (ys := (p.cards.l.map Pt.cells).flatten) rfl ap_44 rfl rfl rfl OwnOk.empty pt_len hP.nq (fun w hm => sa_src (by decide) hP1 hm) pt_one (by simp only [maxLen]; omega) (by omega) rfl (fun z52 hz52 => (RunK.toA (.cons .here rfl (.cons .here rfl .nil)) (.cons .here rfl (.cons .here rfl .nil)) rfl ?_))
       refine RunA.one (i := 7) (by kernel_rfl) (by kernel_rfl) ?_
       refine RunI.new rfl (New.buildSlice0 sl_24) rfl rfl rfl (fun b53 => (RunK.toA (.cons .here rfl (.cons .here rfl (.cons .here rfl .nil))) (.cons (.there .here) rfl (.cons (.there .here) rfl .nil)) rfl ?_))
       refine RunA.toB (by kernel_rfl) ?_
       refine RunB.one (i := 10) (by kernel_rfl) ?_
       refine RunI.keep (Sub.refl _) (.cons (.there .here) rfl (.cons (.there .here) rfl (.cons .here rfl (Pick.refl _)))) ?_
       refine RunI.append (A := [(b5, _), (b4, _)]) (B := _) (x := (some (b53, 0, []))) (ys := (t.fr.l.map Sp.cells).flatten) rfl ap_24 rfl rfl rfl OwnOk.empty sp_len hTq (fun w hm => sa_src (by decide) hT.fr hm) sp_one (by simp only [maxLen]; omega) (by omega) rfl (fun z56 hz56 => (RunK.toB ?_))
       refine RunB.one (i := 11) (by kernel_rfl) ?_
       refine RunI.val rfl (Val.pure rfl) rfl rfl rfl (RunK.toB ?_)
       refine RunB.one (i := 12) (by kernel_rfl) ?_
       refine RunI.val rfl (Val.pure rfl) rfl rfl rfl (RunK.toB ?_)
       refine RunB.one (i := 13) (by kernel_rfl) ?_
       refine RunI.val rfl (Val.pure rfl) rfl rfl rfl (RunK.toB ?_)
       refine RunB.done (by kernel_rfl) ?_
       exact RunE.joinX (z48, z52, z56) ⟨(by rw [Nat.zero_add] at hz48; exact hz48), (by rw [Nat.zero_add] at hz52; exact hz52), (by rw [Nat.zero_add] at hz56; exact hz56)⟩ rfl (Sub.consE (t := 9) rfl (by rw [Nat.zero_add]) (Sub.consE (t := 10) rfl (by rw [Nat.zero_add]) (Sub.consE (t := 11) rfl (by rw [Nat.zero_add]) (Sub.cons (t := 2) rfl (Sub.cons (t := 3) rfl (Sub.cons (t := 4) rfl (Sub.cons (t := 5) rfl (Sub.nil _)))))))) (.cons .here rfl (.cons .here rfl (Pick.cnt fun x => by simp only [nC, spB, ptB, List.nil_append, ownB_some]; omega)))
      refine RunI.new rfl (New.buildSlice0 sl_24) rfl rfl rfl (fun b53 => (RunK.toA (.cons .here rfl (.cons (.there .here) rfl (.cons (.there .here) rfl .nil))) (.cons (.there .here) rfl (.cons (.there .here) rfl .nil)) rfl ?_))
      refine RunA.one (i := 6) (by kernel_rfl) (by kernel_rfl) ?_
      refine RunI.keep (Sub.refl _) (.cons .here rfl (.cons (.there .here) rfl (.cons (.there .here) rfl (.cons .here rfl (Pick.refl _))))) ?_
      refine RunI.append (A := [(b53, _), (b5, _), (b4, _)]) (B := _) (x := (some (b49, 0, []))) (ys := (p.cards.l.map Pt.cells).flatten) rfl ap_44 rfl rfl rfl OwnOk.empty pt_len hP.nq (fun w hm => sa_src (by decide) hP1 hm) pt_one (by simp only [maxLen]; omega) (by omega) rfl (fun z52 hz52 => (RunK.toA (.cons .here rfl (.cons .here rfl (.cons .here rfl .nil))) (.cons .here rfl (.cons .here rfl (.cons .here rfl .nil))) rfl ?_))
      refine RunA.toB (by kernel_rfl) ?_
      refine RunB.one (i := 10) (by kernel_rfl) ?_
      refine RunI.keep (Sub.refl _) (.cons (.there .here) rfl (.cons (.there .here) rfl (.cons .here rfl (Pick.refl _)))) ?_
      refine RunI.append (A := [(b5, _), (b4, _)]) (B := _) (x := (some (b53, 0, []))) (ys := (t.fr.l.map Sp.cells).flatten) rfl ap_24 rfl rfl rfl OwnOk.empty sp_len hTq (fun w hm => sa_src (by decide) hT.fr hm) sp_one (by simp only [maxLen]; omega) (by omega) rfl (fun z56 hz56 => (RunK.toB ?_))
      refine RunB.one (i := 11) (by kernel_rfl) ?_
      refine RunI.val rfl (Val.pure rfl) rfl rfl rfl (RunK.toB ?_)
      refine RunB.one (i := 12) (by kernel_rfl) ?_
      refine RunI.val rfl (Val.pure rfl) rfl rfl rfl (RunK.toB ?_)
      refine RunB.one (i := 13) (by kernel_rfl) ?_
      refine RunI.val rfl (Val.pure rfl) rfl rfl rfl (RunK.toB ?_)
      refine RunB.done (by kernel_rfl) ?_
      exact RunE.joinX (z48, z52, z56) ⟨(by rw [Nat.zero_add] at hz48; exact hz48), (by rw [Nat.zero_add] at hz52; exact hz52), (by rw [Nat.zero_add] at hz56; exact hz56)⟩ rfl (Sub.consE (t := 9) rfl (by rw [Nat.zero_add]) (Sub.consE (t := 10) rfl (by rw [Nat.zero_add]) (Sub.consE (t := 11) rfl (by rw [Nat.zero_add]) (Sub.cons (t := 2) rfl (Sub.cons (t := 3) rfl (Sub.cons (t := 4) rfl (Sub.cons (t := 5) rfl (Sub.nil _)))))))) (.cons .here rfl (.cons .here rfl (Pick.cnt fun x => by simp only [nC, spB, ptB, List.nil_append, ownB_some]; omega)))
     refine RunI.new rfl (New.buildSlice0 sl_24) rfl rfl rfl (fun b53 => (RunK.toA (.cons .here rfl (.cons (.there (.there .here)) rfl (.cons (.there (.there .here)) rfl .nil))) (.cons (.there .here) rfl (.cons (.there .here) rfl .nil)) rfl ?_))
     refine RunA.one (i := 2) (by kernel_rfl) (by kernel_rfl) ?_
     refine RunI.keep (Sub.refl _) (.cons .here rfl (.cons .here rfl (.cons (.there .here) rfl (.cons (.there .here) rfl (.cons .here rfl .nil))))) ?_
     refine RunI.append (A := [(b53, _), (b49, _), (b5, _), (b4, _)]) (B := _) (x := (some (b46, 0, []))) (ys := byc x.l) rfl ap_22 rfl rfl rfl OwnOk.empty (by rw [byc_len, Nat.mul_one]) hS.nq (fun w hm => by rw [byc_flat]; exact sa_src (by decide) hS1 hm) (byc_one x.l) (by simp only [maxLen]; omega) (by omega) rfl (fun z48 hz48 => (RunK.toA (.cons .here rfl (.cons (.there .here) rfl (.cons (.there .here) rfl .nil))) (.cons .here rfl (.cons .here rfl (.cons .here rfl .nil))) rfl ?_))
     refine RunA.one (i := 6) (by kernel_rfl) (by kernel_rfl) ?_
     refine RunI.keep (Sub.refl _) (.cons .here rfl (.cons (.there .here) rfl (.cons (.there .here) rfl (.cons .here rfl (Pick.refl _))))) ?_
     refine RunI.append (A := [(b53, _), (b5, _), (b4, _)]) (B := _) (x := (some (b49, 0, []))) (ys := (p.cards.l.map Pt.cells).flatten) rfl ap_44 rfl rfl rfl OwnOk.empty pt_len hP.nq (fun w hm => sa_src (by decide) hP1 hm) pt_one (by simp only [maxLen]; omega) (by omega) rfl (fun z52 hz52 => (RunK.toA (.cons .here rfl (.cons .here rfl (.cons .here rfl .nil))) (.cons .here rfl (.cons .here rfl (.cons .here rfl .nil))) rfl ?_))
     refine RunA.toB (by kernel_rfl) ?_
     refine RunB.one (i := 10) (by kernel_rfl) ?_
     refine RunI.keep (Sub.refl _) (.cons (.there .here) rfl (.cons (.there .here) rfl (.cons .here rfl (Pick.refl _)))) ?_
     refine RunI.append (A := [(b5, _), (b4, _)]) (B := _) (x := (some (b53, 0, []))) (ys := (t.fr.l.map Sp.cells).flatten) rfl ap_24 rfl rfl rfl OwnOk.empty sp_len hTq (fun w hm => sa_src (by decide) hT.fr hm) sp_one (by simp only [maxLen]; omega) (by omega) rfl (fun z56 hz56 => (RunK.toB ?_))
     refine RunB.one (i := 11) (by kernel_rfl) ?_
     refine RunI.val rfl (Val.pure rfl) rfl rfl rfl (RunK.toB ?_)
     refine RunB.one (i := 12) (by kernel_rfl) ?_
     refine RunI.val rfl (Val.pure rfl) rfl rfl rfl (RunK.toB ?_)
     refine RunB.one (i := 13) (by kernel_rfl) ?_
     refine RunI.val rfl (Val.pure rfl) rfl rfl rfl (RunK.toB ?_)
     refine RunB.done (by kernel_rfl) ?_
     exact RunE.joinX (z48, z52, z56) ⟨(by rw [Nat.zero_add] at hz48; exact hz48), (by rw [Nat.zero_add] at hz52; exact hz52), (by rw [Nat.zero_add] at hz56; exact hz56)⟩ rfl (Sub.consE (t := 9) rfl (by rw [Nat.zero_add]) (Sub.consE (t := 10) rfl (by rw [Nat.zero_add]) (Sub.consE (t := 11) rfl (by rw [Nat.zero_add]) (Sub.cons (t := 2) rfl (Sub.cons (t := 3) rfl (Sub.cons (t := 4) rfl (Sub.cons (t := 5) rfl (Sub.nil _)))))))) (.cons .here rfl (.cons .here rfl (Pick.cnt fun x => by simp only [nC, spB, ptB, List.nil_append, ownB_some]; omega)))
    refine RunI.new rfl (New.buildSlice0 sl_24) rfl rfl rfl (fun b53 => (RunK.toA (.cons .here rfl (.cons (.there .here) rfl (.cons (.there .here) rfl .nil))) (.cons (.there .here) rfl (.cons (.there .here) rfl .nil)) rfl ?_))
    refine RunA.all (rs := [2, 3]) (by kernel_rfl) (by simp) (by kernel_rfl) (fun m hm => ?_)
    simp only [List.mem_cons, List.not_mem_nil, or_false] at hm
    rcases hm with rfl | rfl
    ·refine RunI.keep (Sub.refl _) (.cons .here rfl (.cons (.there .here) rfl (.cons (.there .here) rfl (.cons .here rfl .nil)))) ?_
     refine RunI.append (A := [(b53, _), (b5, _), (b4, _)]) (B := _) (x := (some (b46, 0, []))) (ys := byc x.l) rfl ap_22 rfl rfl rfl OwnOk.empty (by rw [byc_len, Nat.mul_one]) hS.nq (fun w hm => by rw [byc_flat]; exact sa_src (by decide) hS1 hm) (byc_one x.l) (by simp only [maxLen]; omega) (by omega) rfl (fun z48 hz48 => (RunK.toA (.cons .here rfl (.cons .here rfl (.cons .here rfl .nil))) (.cons .here rfl (.cons .here rfl (.cons .here rfl .nil))) rfl ?_))
     refine RunA.one (i := 3) (by kernel_rfl) (by kernel_rfl) ?_
     refine RunI.new rfl (New.buildSlice0 sl_44) rfl rfl rfl (fun b49 => (RunK.toA (.cons (.there .here) rfl (.cons (.there .here) rfl (.cons (.there .here) rfl .nil))) (.cons .here rfl (.cons .here rfl (.cons .here rfl .nil))) rfl ?_))
     refine RunA.one (i := 6) (by kernel_rfl) (by kernel_rfl) ?_
     refine RunI.keep (Sub.refl _) (.cons (.there .here) rfl (.cons (.there .here) rfl (.cons (.there .here) rfl (.cons .here rfl (Pick.refl _))))) ?_
     refine RunI.append (A := [(b53, _), (b5, _), (b4, _)]) (B := _) (x := (some (b49, 0, []))) (ys := (p.cards.l.map Pt.cells).flatten) rfl ap_44 rfl rfl rfl OwnOk.empty pt_len hP.nq (fun w hm => sa_src (by decide) hP1 hm) pt_one (by simp only [maxLen]; omega) (by omega) rfl (fun z52 hz52 => (RunK.toA (.cons .here rfl (.cons .here rfl (.cons .here rfl .nil))) (.cons .here rfl (.cons .here rfl (.cons .here rfl .nil))) rfl ?_))
     refine RunA.toB (by kernel_rfl) ?_
     refine RunB.one (i := 10) (by kernel_rfl) ?_
     refine RunI.keep (Sub.refl _) (.cons (.there .here) rfl (.cons (.there .here) rfl (.cons .here rfl (Pick.refl _)))) ?_
     refine RunI.append (A := [(b5, _), (b4, _)]) (B := _) (x := (some (b53, 0, []))) (ys := (t.fr.l.map Sp.cells).flatten) rfl ap_24 rfl rfl rfl OwnOk.empty sp_len hTq (fun w hm => sa_src (by decide) hT.fr hm) sp_one (by simp only [maxLen]; omega) (by omega) rfl (fun z56 hz56 => (RunK.toB ?_))
     refine RunB.one (i := 11) (by kernel_rfl) ?_
     refine RunI.val rfl (Val.pure rfl) rfl rfl rfl (RunK.toB ?_)
     refine RunB.one (i := 12) (by kernel_rfl) ?_
     refine RunI.val rfl (Val.pure rfl) rfl rfl rfl (RunK.toB ?_)
     refine RunB.one (i := 13) (by kernel_rfl) ?_
     refine RunI.val rfl (Val.pure rfl) rfl rfl rfl (RunK.toB ?_)
     refine RunB.done (by kernel_rfl) ?_
     exact RunE.joinX (z48, z52, z56) ⟨(by rw [Nat.zero_add] at hz48; exact hz48), (by rw [Nat.zero_add] at hz52; exact hz52), (by rw [Nat.zero_add] at hz56; exact hz56)⟩ rfl (Sub.consE (t := 9) rfl (by rw [Nat.zero_add]) (Sub.consE (t := 10) rfl (by rw [Nat.zero_add]) (Sub.consE (t := 11) rfl (by rw [Nat.zero_add]) (Sub.cons (t := 2) rfl (Sub.cons (t := 3) rfl (Sub.cons (t := 4) rfl (Sub.cons (t := 5) rfl (Sub.nil _)))))))) (.cons .here rfl (.cons .here rfl (Pick.cnt fun x => by simp only [nC, spB, ptB, List.nil_append, ownB_some]; omega)))
    refine RunI.new rfl (New.buildSlice0 sl_44) rfl rfl rfl (fun b49 => (RunK.toA (.cons (.there .here) rfl (.cons (.there (.there .here)) rfl (.cons (.there (.there .here)) rfl .nil))) (.cons .here rfl (.cons .here rfl (.cons .here rfl .nil))) rfl ?_))
    refine RunA.one (i := 2) (by kernel_rfl) (by kernel_rfl) ?_
    refine RunI.keep (Sub.refl _) (.cons .here rfl (.cons .here rfl (.cons (.there .here) rfl (.cons (.there .here) rfl (.cons .here rfl .nil))))) ?_
    refine RunI.append (A := [(b49, _), (b53, _), (b5, _), (b4, _)]) (B := _) (x := (some (b46, 0, []))) (ys := byc x.l) rfl ap_22 rfl rfl rfl OwnOk.empty (by rw [byc_len, Nat.mul_one]) hS.nq (fun w hm => by rw [byc_flat]; exact sa_src (by decide) hS1 hm) (byc_one x.l) (by simp only [maxLen]; omega) (by omega) rfl (fun z48 hz48 => (RunK.toA (.cons (.there .here) rfl (.cons (.there .here) rfl (.cons (.there .here) rfl .nil))) (.cons .here rfl (.cons .here rfl (.cons .here rfl .nil))) rfl ?_))
    refine RunA.one (i := 6) (by kernel_rfl) (by kernel_rfl) ?_
    refine RunI.keep (Sub.refl _) (.cons (.there .here) rfl (.cons (.there .here) rfl (.cons (.there .here) rfl (.cons .here rfl (Pick.refl _))))) ?_
    refine RunI.append (A := [(b53, _), (b5, _), (b4, _)]) (B := _) (x := (some (b49, 0, []))) (ys := (p.cards.l.map Pt.cells).flatten) rfl ap_44 rfl rfl rfl OwnOk.empty pt_len hP.nq (fun w hm => sa_src (by decide) hP1 hm) pt_one (by simp only [maxLen]; omega) (by omega) rfl (fun z52 hz52 => (RunK.toA (.cons .here rfl (.cons .here rfl (.cons .here rfl .nil))) (.cons .here rfl (.cons .here rfl (.cons .here rfl .nil))) rfl ?_))
    refine RunA.toB (by kernel_rfl) ?_
    refine RunB.one (i := 10) (by kernel_rfl) ?_
    refine RunI.keep (Sub.refl _) (.cons (.there .here) rfl (.cons (.there .here) rfl (.cons .here rfl (Pick.refl _)))) ?_
    refine RunI.append (A := [(b5, _), (b4, _)]) (B := _) (x := (some (b53, 0, []))) (ys := (t.fr.l.map Sp.cells).flatten) rfl ap_24 rfl rfl rfl OwnOk.empty sp_len hTq (fun w hm => sa_src (by decide) hT.fr hm) sp_one (by simp only [maxLen]; omega) (by omega) rfl (fun z56 hz56 => (RunK.toB ?_))
    refine RunB.one (i := 11) (by kernel_rfl) ?_
    refine RunI.val rfl (Val.pure rfl) rfl rfl rfl (RunK.toB ?_)
    refine RunB.one (i := 12) (by kernel_rfl) ?_
    refine RunI.val rfl (Val.pure rfl) rfl rfl rfl (RunK.toB ?_)
    refine RunB.one (i := 13) (by kernel_rfl) ?_
    refine RunI.val rfl (Val.pure rfl) rfl rfl rfl (RunK.toB ?_)
    refine RunB.done (by kernel_rfl) ?_
    exact RunE.joinX (z48, z52, z56) ⟨(by rw [Nat.zero_add] at hz48; exact hz48), (by rw [Nat.zero_add] at hz52; exact hz52), (by rw [Nat.zero_add] at hz56; exact hz56)⟩ rfl (Sub.consE (t := 9) rfl (by rw [Nat.zero_add]) (Sub.consE (t := 10) rfl (by rw [Nat.zero_add]) (Sub.consE (t := 11) rfl (by rw [Nat.zero_add]) (Sub.cons (t := 2) rfl (Sub.cons (t := 3) rfl (Sub.cons (t := 4) rfl (Sub.cons (t := 5) rfl (Sub.nil _)))))))) (.cons .here rfl (.cons .here rfl (Pick.cnt fun x => by simp only [nC, spB, ptB, List.nil_append, ownB_some]; omega)))
   ·refine RunI.new rfl (New.buildSlice0 sl_44) rfl rfl rfl (fun b49 => (RunK.toA (.cons (.there .here) rfl (.cons (.there .here) rfl .nil)) (.cons .here rfl (.cons .here rfl .nil)) rfl ?_))
    refine RunA.all (rs := [0, 7]) (by kernel_rfl) (by simp) (by kernel_rfl) (fun m hm => ?_)
    simp only [List.mem_cons, List.not_mem_nil, or_false] at hm
    rcases hm with rfl | rfl
    ·refine RunI.new rfl (New.buildSlice0 sl_22) rfl rfl rfl (fun b46 => (RunK.toA (.cons (.there (.there .here)) rfl (.cons (.there (.there .here)) rfl .nil)) (.cons .here rfl (.cons .here rfl .nil)) rfl ?_))
     refine RunA.all (rs := [2, 7]) (by kernel_rfl) (by simp) (by kernel_rfl) (fun m hm => ?_)
     simp only [List.mem_cons, List.not_mem_nil, or_false] at hm
     rcases hm with rfl | rfl
     ·refine RunI.keep (Sub.refl _) (.cons (.there .here) rfl (.cons (.there .here) rfl (.cons (.there .here) rfl (.cons .here rfl .nil)))) ?_
      refine RunI.append (A := [(b49, _), (b5, _), (b4, _)]) (B := _) (x := (some (b46, 0, []))) (ys := byc x.l) rfl ap_22 rfl rfl rfl OwnOk.empty (by rw [byc_len, Nat.mul_one]) hS.nq (fun w hm => by rw [byc_flat]; exact sa_src (by decide) hS1 hm) (byc_one x.l) (by simp only [maxLen]; omega) (by omega) rfl (fun z48 hz48 => (RunK.toA (.cons (.there .here) rfl (.cons (.there .here) rfl .nil)) (.cons .here rfl (.cons .here rfl .nil)) rfl ?_))
      refine RunA.all (rs := [6, 7]) (by kernel_rfl) (by simp) (by kernel_rfl) (fun m hm => ?_)
      simp only [List.mem_cons, List.not_mem_nil, or_false] at hm
      rcases hm with rfl | rfl
      ·refine RunI.keep (Sub.refl _) (.cons (.there .here) rfl (.cons (.there .here) rfl (.cons .here rfl (Pick.refl _)))) ?_
       refine RunI.append (A := [(b5, _), (b4, _)]) (B := _) (x := (some (b49, 0, []))) (ys := (p.cards.l.map Pt.cells).flatten) rfl ap_44 rfl rfl rfl OwnOk.empty pt_len hP.nq (fun w hm => sa_src (by decide) hP1 hm) pt_one (by simp only [maxLen]; omega) (by omega) rfl (fun z52 hz52 => (RunK.toA (.cons .here rfl (.cons .here rfl .nil)) (.cons .here rfl (.cons .here rfl .nil)) rfl ?_))
       refine RunA.one (i := 7) (by kernel_rfl) (by kernel_rfl) ?_
       refine RunI.new rfl (New.buildSlice0 sl_24) rfl rfl rfl (fun b53 => (RunK.toA (.cons .here rfl (.cons .here rfl (.cons .here rfl .nil))) (.cons (.there .here) rfl (.cons (.there .here) rfl .nil)) rfl ?_))
       refine RunA.toB (by kernel_rfl) ?_
       refine RunB.one (i := 10) (by kernel_rfl) ?_
       refine RunI.keep (Sub.refl _) (.cons (.there .here) rfl (.cons (.there .here) rfl (.cons .here rfl (Pick.refl _)))) ?_
       refine RunI.append (A := [(b5, _), (b4, _)]) (B := _) (x := (some (b53, 0, []))) (ys := (t.fr.l.map Sp.cells).flatten) rfl ap_24 rfl rfl rfl OwnOk.empty sp_len hTq (fun w hm => sa_src (by decide) hT.fr hm) sp_one (by simp only [maxLen]; omega) (by omega) rfl (fun z56 hz56 => (RunK.toB ?_))
       refine RunB.one (i := 11) (by kernel_rfl) ?_
       refine RunI.val rfl (Val.pure rfl) rfl rfl rfl (RunK.toB ?_)
       refine RunB.one (i := 12) (by kernel_rfl) ?_
       refine RunI.val rfl (Val.pure rfl) rfl rfl rfl (RunK.toB ?_)
       refine RunB.one (i := 13) (by kernel_rfl) ?_
       refine RunI.val rfl (Val.pure rfl) rfl rfl rfl (RunK.toB ?_)
       refine RunB.done (by kernel_rfl) ?_
       exact RunE.joinX (z48, z52, z56) ⟨(by rw [Nat.zero_add] at hz48; exact hz48), (by rw [Nat.zero_add] at hz52; exact hz52), (by rw [Nat.zero_add] at hz56; exact hz56)⟩ rfl (Sub.consE (t := 9) rfl (by rw [Nat.zero_add]) (Sub.consE (t := 10) rfl (by rw [Nat.zero_add]) (Sub.consE (t := 11) rfl (by rw [Nat.zero_add]) (Sub.cons (t := 2) rfl (Sub.cons (t := 3) rfl (Sub.cons (t := 4) rfl (Sub.cons (t := 5) rfl (Sub.nil _)))))))) (.cons .here rfl (.cons .here rfl (Pick.cnt fun x => by simp only [nC, spB, ptB, List.nil_append, ownB_some]; omega)))
      refine RunI.new rfl (New.buildSlice0 sl_24) rfl rfl rfl (fun b53 => (RunK.toA (.cons .here rfl (.cons (.there .here) rfl (.cons (.there .here) rfl .nil))) (.cons (.there .here) rfl (.cons (.there .here) rfl .nil)) rfl ?_))
      refine RunA.one (i := 6) (by kernel_rfl) (by kernel_rfl) ?_
      refine RunI.keep (Sub.refl _) (.cons .here rfl (.cons (.there .here) rfl (.cons (.there .here) rfl (.cons .here rfl (Pick.refl _))))) ?_
      refine RunI.append (A := [(b53, _), (b5, _), (b4, _)]) (B := _) (x := (some (b49, 0, []))) (ys := (p.cards.l.map Pt.cells).flatten) rfl ap_44 rfl rfl rfl OwnOk.empty pt_len hP.nq (fun w hm => sa_src (by decide) hP1 hm) pt_one (by simp only [maxLen]; omega) (by omega) rfl (fun z52 hz52 => (RunK.toA (.cons .here rfl (.cons .here rfl (.cons .here rfl .nil))) (.cons .here rfl (.cons .here rfl (.cons .here rfl .nil))) rfl ?_))
      refine RunA.toB (by kernel_rfl) ?_
      refine RunB.one (i := 10) (by kernel_rfl) ?_
      refine RunI.keep (Sub.refl _) (.cons (.there .here) rfl (.cons (.there .here) rfl (.cons .here rfl (Pick.refl _)))) ?_
      refine RunI.append (A := [(b5, _), (b4, _)]) (B := _) (x := (some (b53, 0, []))) (ys := (t.fr.l.map Sp.cells).flatten) rfl ap_24 rfl rfl rfl OwnOk.empty sp_len hTq (fun w hm => sa_src (by decide) hT.fr hm) sp_one (by simp only [maxLen]; omega) (by omega) rfl (fun z56 hz56 => (RunK.toB ?_))
      refine RunB.one (i := 11) (by kernel_rfl) ?_
      refine RunI.val rfl (Val.pure rfl) rfl rfl rfl (RunK.toB ?_)
      refine RunB.one (i := 12) (by kernel_rfl) ?_
      refine RunI.val rfl (Val.pure rfl) rfl rfl rfl (RunK.toB ?_)
      refine RunB.one (i := 13) (by kernel_rfl) ?_
      refine RunI.val rfl (Val.pure rfl) rfl rfl rfl (RunK.toB ?_)
      refine RunB.done (by kernel_rfl) ?_
      exact RunE.joinX (z48, z52, z56) ⟨(by rw [Nat.zero_add] at hz48; exact hz48), (by rw [Nat.zero_add] at hz52; exact hz52), (by rw [Nat.zero_add] at hz56; exact hz56)⟩ rfl (Sub.consE (t := 9) rfl (by rw [Nat.zero_add]) (Sub.consE (t := 10) rfl (by rw [Nat.zero_add]) (Sub.consE (t := 11) rfl (by rw [Nat.zero_add]) (Sub.cons (t := 2) rfl (Sub.cons (t := 3) rfl (Sub.cons (t := 4) rfl (Sub.cons (t := 5) rfl (Sub.nil _)))))))) (.cons .here rfl (.cons .here rfl (Pick.cnt fun x => by simp only [nC, spB, ptB, List.nil_append, ownB_some]; omega)))
     refine RunI.new rfl (New.buildSlice0 sl_24) rfl rfl rfl (fun b53 => (RunK.toA (.cons .here rfl (.cons (.there (.there .here)) rfl (.cons (.there (.there .here)) rfl .nil))) (.cons (.there .here) rfl (.cons (.there .here) rfl .nil)) rfl ?_))
     refine RunA.one (i := 2) (by kernel_rfl) (by kernel_rfl) ?_
     refine RunI.keep (Sub.refl _) (.cons .here rfl (.cons (.there .here) rfl (.cons (.there .here) rfl (.cons (.there .here) rfl (.cons .here rfl .nil))))) ?_
     refine RunI.append (A := [(b53, _), (b49, _), (b5, _), (b4, _)]) (B := _) (x := (some (b46, 0, []))) (ys := byc x.l) rfl ap_22 rfl rfl rfl OwnOk.empty (by rw [byc_len, Nat.mul_one]) hS.nq (fun w hm => by rw [byc_flat]; exact sa_src (by decide) hS1 hm) (byc_one x.l) (by simp only [maxLen]; omega) (by omega) rfl (fun z48 hz48 => (RunK.toA (.cons .here rfl (.cons (.there .here) rfl (.cons (.there .here) rfl .nil))) (.cons .here rfl (.cons .here rfl (.cons .here rfl .nil))) rfl ?_))
     refine RunA.one (i := 6) (by kernel_rfl) (by kernel_rfl) ?_
     refine RunI.keep (Sub.refl _) (.cons .here rfl (.cons (.there .here) rfl (.cons (.there .here) rfl (.cons .here rfl (Pick.refl _))))) ?_
     refine RunI.append (A := [(b53, _), (b5, _), (b4, _)]) (B := _) (x := (some (b49, 0, []))) (ys := (p.cards.l.map Pt.cells).flatten) rfl ap_44 rfl rfl rfl OwnOk.empty pt_len hP.nq (fun w hm => sa_src (by decide) hP1 hm) pt_one (by simp only [maxLen]; omega) (by omega) rfl (fun z52 hz52 => (RunK.toA (.cons .here rfl (.cons .here rfl (.cons .here rfl .nil))) (.cons .here rfl (.cons .here rfl (.cons .here rfl .nil))) rfl ?_))
     refine RunA.toB (by kernel_rfl) ?_
     refine RunB.one (i := 10) (by kernel_rfl) ?_
     refine RunI.keep (Sub.refl _) (.cons (.there .here) rfl (.cons (.there .here) rfl (.cons .here rfl (Pick.refl _)))) ?_
     refine RunI.append (A := [(b5, _), (b4, _)]) (B := _) (x := (some (b53, 0, []))) (ys := (t.fr.l.map Sp.cells).flatten) rfl ap_24 rfl rfl rfl OwnOk.empty sp_len hTq (fun w hm => sa_src (by decide) hT.fr hm) sp_one (by simp only [maxLen]; omega) (by omega) rfl (fun z56 hz56 => (RunK.toB ?_))
     refine RunB.one (i := 11) (by kernel_rfl) ?_
     refine RunI.val rfl (Val.pure rfl) rfl rfl rfl (RunK.toB ?_)
     refine RunB.one (i := 12) (by kernel_rfl) ?_
     refine RunI.val rfl (Val.pure rfl) rfl rfl rfl (RunK.toB ?_)
     refine RunB.one (i := 13) (by kernel_rfl) ?_
     refine RunI.val rfl (Val.pure rfl) rfl rfl rfl (RunK.toB ?_)
     refine RunB.done (by kernel_rfl) ?_
     exact RunE.joinX (z48, z52, z56) ⟨(by rw [Nat.zero_add] at hz48; exact hz48), (by rw [Nat.zero_add] at hz52; exact hz52), (by rw [Nat.zero_add] at hz56; exact hz56)⟩ rfl (Sub.consE (t := 9) rfl (by rw [Nat.zero_add]) (Sub.consE (t := 10) rfl (by rw [Nat.zero_add]) (Sub.consE (t := 11) rfl (by rw [Nat.zero_add]) (Sub.cons (t := 2) rfl (Sub.cons (t := 3) rfl (Sub.cons (t := 4) rfl (Sub.cons (t := 5) rfl (Sub.nil _)))))))) (.cons .here rfl (.cons .here rfl (Pick.cnt fun x => by simp only [nC, spB, ptB, List.nil_append, ownB_some]; omega)))
    refine RunI.new rfl (New.buildSlice0 sl_24) rfl rfl rfl (fun b53 => (RunK.toA (.cons .here rfl (.cons (.there .here) rfl (.cons (.there .here) rfl .nil))) (.cons (.there .here) rfl (.cons (.there .here) rfl .nil)) rfl ?_))
    refine RunA.one (i := 0) (by kernel_rfl) (by kernel_rfl) ?_
    refine RunI.new rfl (New.buildSlice0 sl_22) rfl rfl rfl (fun b46 => (RunK.toA (.cons (.there .here) rfl (.cons (.there (.there .here)) rfl (.cons (.there (.there .here)) rfl .nil))) (.cons .here rfl (.cons .here rfl (.cons .here rfl .nil))) rfl ?_))
    refine RunA.one (i := 2) (by kernel_rfl) (by kernel_rfl) ?_
    refine RunI.keep (Sub.refl _) (.cons (.there .here) rfl (.cons (.there .here) rfl (.cons (.there .here) rfl (.cons (.there .here) rfl (.cons .here rfl .nil))))) ?_
    refine RunI.append (A := [(b53, _), (b49, _), (b5, _), (b4, _)]) (B := _) (x := (some (b46, 0, []))) (ys := byc x.l) rfl ap_22 rfl rfl rfl OwnOk.empty (by rw [byc_len, Nat.mul_one]) hS.nq (fun w hm => by rw [byc_flat]; exact sa_src (by decide) hS1 hm) (byc_one x.l) (by simp only [maxLen]; omega) (by omega) rfl (fun z48 hz48 => (RunK.toA (.cons .here rfl (.cons (.there .here) rfl (.cons (.there .here) rfl .nil))) (.cons .here rfl (.cons .here rfl (.cons .here rfl .nil))) rfl ?_))
    refine RunA.one (i := 6) (by kernel_rfl) (by kernel_rfl) ?_
    refine RunI.keep (Sub.refl _) (.cons .here rfl (.cons (.there .here) rfl (.cons (.there .here) rfl (.cons .here rfl (Pick.refl _))))) ?_
    refine RunI.append (A := [(b53, _), (b5, _), (b4, _)]) (B := _) (x := (some (b49, 0, []))) (ys := (p.cards.l.map Pt.cells).flatten) rfl ap_44 rfl rfl rfl OwnOk.empty pt_len hP.nq (fun w hm => sa_src (by decide) hP1 hm) pt_one (by simp only [maxLen]; omega) (by omega) rfl (fun z52 hz52 => (RunK.toA (.cons .here rfl (.cons .here rfl (.cons .here rfl .nil))) (.cons .here rfl (.cons .here rfl (.cons .here rfl .nil))) rfl ?_))
    refine RunA.toB (by kernel_rfl) ?_
    refine RunB.one (i := 10) (by kernel_rfl) ?_
    refine RunI.keep (Sub.refl _) (.cons (.there .here) rfl (.cons (.there .here) rfl (.cons .here rfl (Pick.refl _)))) ?_
    refine RunI.append (A := [(b5, _), (b4, _)]) (B := _) (x := (some (b53, 0, []))) (ys := (t.fr.l.map Sp.cells).flatten) rfl ap_24 rfl rfl rfl OwnOk.empty sp_len hTq (fun w hm => sa_src (by decide) hT.fr hm) sp_one (by simp only [maxLen]; omega) (by omega) rfl (fun z56 hz56 => (RunK.toB ?_))
    refine RunB.one (i := 11) (by kernel_rfl) ?_
    refine RunI.val rfl (Val.pure rfl) rfl rfl rfl (RunK.toB ?_)
    refine RunB.one (i := 12) (by kernel_rfl) ?_
    refine RunI.val rfl (Val.pure rfl) rfl rfl rfl (RunK.toB ?_)
    refine RunB.one (i := 13) (by kernel_rfl) ?_
    refine RunI.val rfl (Val.pure rfl) rfl rfl rfl (RunK.toB ?_)
    refine RunB.done (by kernel_rfl) ?_
    exact RunE.joinX (z48, z52, z56) ⟨(by rw [Nat.zero_add] at hz48; exact hz48), (by rw [Nat.zero_add] at hz52; exact hz52), (by rw [Nat.zero_add] at hz56; exact hz56)⟩ rfl (Sub.consE (t := 9) rfl (by rw [Nat.zero_add]) (Sub.consE (t := 10) rfl (by rw [Nat.zero_add]) (Sub.consE (t := 11) rfl (by rw [Nat.zero_add]) (Sub.cons (t := 2) rfl (Sub.cons (t := 3) rfl (Sub.cons (t := 4) rfl (Sub.cons (t := 5) rfl (Sub.nil _)))))))) (.cons .here rfl (.cons .here rfl (Pick.cnt fun x => by simp only [nC, spB, ptB, List.nil_append, ownB_some]; omega)))
   refine RunI.new rfl (New.buildSlice0 sl_24) rfl rfl rfl (fun b53 => (RunK.toA (.cons .here rfl (.cons .here rfl (.cons .here rfl .nil))) (.cons (.there .here) rfl (.cons (.there .here) rfl .nil)) rfl ?_))
   refine RunA.all (rs := [0, 3]) (by kernel_rfl) (by simp) (by kernel_rfl) (fun m hm => ?_)
   simp only [List.mem_cons, List.not_mem_nil, or_false] at hm
   rcases hm with rfl | rfl
   ·refine RunI.new rfl (New.buildSlice0 sl_22) rfl rfl rfl (fun b46 => (RunK.toA (.cons (.there .here) rfl (.cons (.there .here) rfl (.cons (.there .here) rfl .nil))) (.cons .here rfl (.cons .here rfl (.cons .here rfl .nil))) rfl ?_))
    refine RunA.all (rs := [2, 3]) (by kernel_rfl) (by simp) (by kernel_rfl) (fun m hm => ?_)
    simp only [List.mem_cons, List.not_mem_nil, or_false] at hm
    rcases hm with rfl | rfl
    ·refine RunI.keep (Sub.refl _) (.cons (.there .here) rfl (.cons (.there .here) rfl (.cons (.there .here) rfl (.cons .here rfl .nil)))) ?_
     refine RunI.append (A := [(b53, _), (b5, _), (b4, _)]) (B := _) (x := (some (b46, 0, []))) (ys := byc x.l) rfl ap_22 rfl rfl rfl OwnOk.empty (by rw [byc_len, Nat.mul_one]) hS.nq (fun w hm => by rw [byc_flat]; exact sa_src (by decide) hS1 hm) (byc_one x.l) (by simp only [maxLen]; omega) (by omega) rfl (fun z48 hz48 => (RunK.toA (.cons .here rfl (.cons .here rfl (.cons .here rfl .nil))) (.cons .here rfl (.cons .here rfl (.cons .here rfl .nil))) rfl ?_))
     refine RunA.one (i := 3) (by kernel_rfl) (by kernel_rfl) ?_
     refine RunI.new rfl (New.buildSlice0 sl_44) rfl rfl rfl (fun b49 => (RunK.toA (.cons (.there .here) rfl (.cons (.there .here) rfl (.cons (.there .here) rfl .nil))) (.cons .here rfl (.cons .here rfl (.cons .here rfl .nil))) rfl ?_))
     refine RunA.one (i := 6) (by kernel_rfl) (by kernel_rfl) ?_
     refine RunI.keep (Sub.refl _) (.cons (.there .here) rfl (.cons (.there .here) rfl (.cons (.there .here) rfl (.cons .here rfl (Pick.refl _))))) ?_
     refine RunI.append (A := [(b53, _), (b5, _), (b4, _)]) (B := _) (x := (some (b49, 0, []))) (ys := (p.cards.l.map Pt.cells).flatten) rfl ap_44 rfl rfl rfl OwnOk.empty pt_len hP.nq (fun w hm => sa_src (by decide) hP1 hm) pt_one (by simp only [maxLen]; omega) (by omega) rfl (fun z52 hz52 => (RunK.toA (.cons .here rfl (.cons .here rfl (.cons .here rfl .nil))) (.cons .here rfl (.cons .here rfl (.cons .here rfl .nil))) rfl ?_))
     refine RunA.toB (by kernel_rfl) ?_
     refine RunB.one (i := 10) (by kernel_rfl) ?_
     refine RunI.keep (Sub.refl _) (.cons (.there .here) rfl (.cons (.there .here) rfl (.cons .here rfl (Pick.refl _)))) ?_
     refine RunI.append (A := [(b5, _), (b4, _)]) (B := _) (x := (some (b53, 0, []))) (ys := (t.fr.l.map Sp.cells).flatten) rfl ap_24 rfl rfl rfl OwnOk.empty sp_len hTq (fun w hm => sa_src (by decide) hT.fr hm) sp_one (by simp only [maxLen]; omega) (by omega) rfl (fun z56 hz56 => (RunK.toB ?_))
     refine RunB.one (i := 11) (by kernel_rfl) ?_
     refine RunI.val rfl (Val.pure rfl) rfl rfl rfl (RunK.toB ?_)
     refine RunB.one (i := 12) (by kernel_rfl) ?_
     refine RunI.val rfl (Val.pure rfl) rfl rfl rfl (RunK.toB ?_)
     refine RunB.one (i := 13) (by kernel_rfl) ?_
     refine RunI.val rfl (Val.pure rfl) rfl rfl rfl (RunK.toB ?_)
     refine RunB.done (by kernel_rfl) ?_
     exact RunE.joinX (z48, z52, z56) ⟨(by rw [Nat.zero_add] at hz48; exact hz48), (by rw [Nat.zero_add] at hz52; exact hz52), (by rw [Nat.zero_add] at hz56; exact hz56)⟩ rfl (Sub.consE (t := 9) rfl (by rw [Nat.zero_add]) (Sub.consE (t := 10) rfl (by rw [Nat.zero_add]) (Sub.consE (t := 11) rfl (by rw [Nat.zero_add]) (Sub.cons (t := 2) rfl (Sub.cons (t := 3) rfl (Sub.cons (t := 4) rfl (Sub.cons (t := 5) rfl (Sub.nil _)))))))) (.cons .here rfl (.cons .here rfl (Pick.cnt fun x => by simp only [nC, spB, ptB, List.nil_append, ownB_some]; omega)))
    refine RunI.new rfl (New.buildSlice0 sl_44) rfl rfl rfl (fun b49 => (RunK.toA (.cons (.there (.there .here)) rfl (.cons (.there (.there .here)) rfl (.cons (.there (.there .here)) rfl .nil))) (.cons .here rfl (.cons .here rfl (.cons .here rfl .nil))) rfl ?_))
    refine RunA.one (i := 2) (by kernel_rfl) (by kernel_rfl) ?_
    refine RunI.keep (Sub.refl _) (.cons .here rfl (.cons (.there .here) rfl (.cons (.there .here) rfl (.cons (.there .here) rfl (.cons .here rfl .nil))))) ?_
    refine RunI.append (A := [(b49, _), (b53, _), (b5, _), (b4, _)]) (B := _) (x := (some (b46, 0, []))) (ys := byc x.l) rfl ap_22 rfl rfl rfl OwnOk.empty (by rw [byc_len, Nat.mul_one]) hS.nq (fun w hm => by rw [byc_flat]; exact sa_src (by decide) hS1 hm) (byc_one x.l) (by simp only [maxLen]; omega) (by omega) rfl (fun z48 hz48 => (RunK.toA (.cons (.there .here) rfl (.cons (.there .here) rfl (.cons (.there .here) rfl .nil))) (.cons .here rfl (.cons .here rfl (.cons .here rfl .nil))) rfl ?_))
    refine RunA.one (i := 6) (by kernel_rfl) (by kernel_rfl) ?_
    refine RunI.keep (Sub.refl _) (.cons (.there .here) rfl (.cons (.there .here) rfl (.cons (.there .here) rfl (.cons .here rfl (Pick.refl _))))) ?_
    refine RunI.append (A := [(b53, _), (b5, _), (b4, _)]) (B := _) (x := (some (b49, 0, []))) (ys := (p.cards.l.map Pt.cells).flatten) rfl ap_44 rfl rfl rfl OwnOk.empty pt_len hP.nq (fun w hm => sa_src (by decide) hP1 hm) pt_one (by simp only [maxLen]; omega) (by omega) rfl (fun z52 hz52 => (RunK.toA (.cons .here rfl (.cons .here rfl (.cons .here rfl .nil))) (.cons .here rfl (.cons .here rfl (.cons .here rfl .nil))) rfl ?_))
    refine RunA.toB (by kernel_rfl) ?_
    refine RunB.one (i := 10) (by kernel_rfl) ?_
    refine RunI.keep (Sub.refl _) (.cons (.there .here) rfl (.cons (.there .here) rfl (.cons .here rfl (Pick.refl _)))) ?_
    refine RunI.append (A := [(b5, _), (b4, _)]) (B := _) (x := (some (b53, 0, []))) (ys := (t.fr.l.map Sp.cells).flatten) rfl ap_24 rfl rfl rfl OwnOk.empty sp_len hTq (fun w hm => sa_src (by decide) hT.fr hm) sp_one (by simp only [maxLen]; omega) (by omega) rfl (fun z56 hz56 => (RunK.toB ?_))
    refine RunB.one (i := 11) (by kernel_rfl) ?_
    refine RunI.val rfl (Val.pure rfl) rfl rfl rfl (RunK.toB ?_)
    refine RunB.one (i := 12) (by kernel_rfl) ?_
    refine RunI.val rfl (Val.pure rfl) rfl rfl rfl (RunK.toB ?_)
    refine RunB.one (i := 13) (by kernel_rfl) ?_
    refine RunI.val rfl (Val.pure rfl) rfl rfl rfl (RunK.toB ?_)
    refine RunB.done (by kernel_rfl) ?_
    exact RunE.joinX (z48, z52, z56) ⟨(by rw [Nat.zero_add] at hz48; exact hz48), (by rw [Nat.zero_add] at hz52; exact hz52), (by rw [Nat.zero_add] at hz56; exact hz56)⟩ rfl (Sub.consE (t := 9) rfl (by rw [Nat.zero_add]) (Sub.consE (t := 10) rfl (by rw [Nat.zero_add]) (Sub.consE (t := 11) rfl (by rw [Nat.zero_add]) (Sub.cons (t := 2) rfl (Sub.cons (t := 3) rfl (Sub.cons (t := 4) rfl (Sub.cons (t := 5) rfl (Sub.nil _)))))))) (.cons .here rfl (.cons .here rfl (Pick.cnt fun x => by simp only [nC, spB, ptB, List.nil_append, ownB_some]; omega)))
   refine RunI.new rfl (New.buildSlice0 sl_44) rfl rfl rfl (fun b49 => (RunK.toA (.cons (.there .here) rfl (.cons (.there .here) rfl (.cons (.there .here) rfl .nil))) (.cons .here rfl (.cons .here rfl (.cons .here rfl .nil))) rfl ?_))
   refine RunA.one (i := 0) (by kernel_rfl) (by kernel_rfl) ?_
   refine RunI.new rfl (New.buildSlice0 sl_22) rfl rfl rfl (fun b46 => (RunK.toA (.cons (.there (.there .here)) rfl (.cons (.there (.there .here)) rfl (.cons (.there (.there .here)) rfl .nil))) (.cons .here rfl (.cons .here rfl (.cons .here rfl .nil))) rfl ?_))
   refine RunA.one (i := 2) (by kernel_rfl) (by kernel_rfl) ?_
   refine RunI.keep (Sub.refl _) (.cons (.there .here) rfl (.cons (.there .here) rfl (.cons (.there .here) rfl (.cons (.there .here) rfl (.cons .here rfl .nil))))) ?_
   refine RunI.append (A := [(b49, _), (b53, _), (b5, _), (b4, _)]) (B := _) (x := (some (b46, 0, []))) (ys := byc x.l) rfl ap_22 rfl rfl rfl OwnOk.empty (by rw [byc_len, Nat.mul_one]) hS.nq (fun w hm => by rw [byc_flat]; exact sa_src (by decide) hS1 hm) (byc_one x.l) (by simp only [maxLen]; omega) (by omega) rfl (fun z48 hz48 => (RunK.toA (.cons (.there .here) rfl (.cons (.there .here) rfl (.cons (.there .here) rfl .nil))) (.cons .here rfl (.cons .here rfl (.cons .here rfl .nil))) rfl ?_))
   refine RunA.one (i := 6) (by kernel_rfl) (by kernel_rfl) ?_
   refine RunI.keep (Sub.refl _) (.cons (.there .here) rfl (.cons (.there .here) rfl (.cons (.there .here) rfl (.cons .here rfl (Pick.refl _))))) ?_
   refine RunI.append (A := [(b53, _), (b5, _), (b4, _)]) (B := _) (x := (some (b49, 0, []))) (ys := (p.cards.l.map Pt.cells).flatten) rfl ap_44 rfl rfl rfl OwnOk.empty pt_len hP.nq (fun w hm => sa_src (by decide) hP1 hm) pt_one (by simp only [maxLen]; omega) (by omega) rfl (fun z52 hz52 => (RunK.toA (.cons .here rfl (.cons .here rfl (.cons .here rfl .nil))) (.cons .here rfl (.cons .here rfl (.cons .here rfl .nil))) rfl ?_))
   refine RunA.toB (by kernel_rfl) ?_
   refine RunB.one (i := 10) (by kernel_rfl) ?_
   refine RunI.keep (Sub.refl _) (.cons (.there .here) rfl (.cons (.there .here) rfl (.cons .here rfl (Pick.refl _)))) ?_
   refine RunI.append (A := [(b5, _), (b4, _)]) (B := _) (x := (some (b53, 0, []))) (ys := (t.fr.l.map Sp.cells).flatten) rfl ap_24 rfl rfl rfl OwnOk.empty sp_len hTq (fun w hm => sa_src (by decide) hT.fr hm) sp_one (by simp only [maxLen]; omega) (by omega) rfl (fun z56 hz56 => (RunK.toB ?_))
   refine RunB.one (i := 11) (by kernel_rfl) ?_
   refine RunI.val rfl (Val.pure rfl) rfl rfl rfl (RunK.toB ?_)
   refine RunB.one (i := 12) (by kernel_rfl) ?_
   refine RunI.val rfl (Val.pure rfl) rfl rfl rfl (RunK.toB ?_)
   refine RunB.one (i := 13) (by kernel_rfl) ?_
   refine RunI.val rfl (Val.pure rfl) rfl rfl rfl (RunK.toB ?_)
   refine RunB.done (by kernel_rfl) ?_
   exact RunE.joinX (z48, z52, z56) ⟨(by rw [Nat.zero_add] at hz48; exact hz48), (by rw [Nat.zero_add] at hz52; exact hz52), (by rw [Nat.zero_add] at hz56; exact hz56)⟩ rfl (Sub.consE (t := 9) rfl (by rw [Nat.zero_add]) (Sub.consE (t := 10) rfl (by rw [Nat.zero_add]) (Sub.consE (t := 11) rfl (by rw [Nat.zero_add]) (Sub.cons (t := 2) rfl (Sub.cons (t := 3) rfl (Sub.cons (t := 4) rfl (Sub.cons (t := 5) rfl (Sub.nil _)))))))) (.cons .here rfl (.cons .here rfl (Pick.cnt fun x => by simp only [nC, spB, ptB, List.nil_append, ownB_some]; omega)))
  intro o oI
  obtain ⟨o1, o2, o3⟩ := o
  obtain ⟨ho1, ho2, ho3⟩ := oI
  dsimp only at ho1 ho2 ho3 ⊢
  refine RunE.next ?_
  refine csr ?_
  refine RunL.val (Val.load_agg rfl (.head _) ty_48 rfl) rfl rfl rfl ?_
  refine RunL.callNA [(b5, _), (b4, _)] _ rfl (isCall_func rfl ent_19) rfl rfl rfl (fun w hm => (writePrints_any p hl40 w (SA.ok.mono0 hP1 (by decide) hm))) (fun z59 => ?_)
  obtain ⟨y59, hy59⟩ := z59
  dsimp only
  rw [hwp] at hy59 ⊢
  iterate 5 refine vp rfl rfl rfl rfl ?_
  refine nsr ?_
  refine RunL.new (New.buildSlice0 sl_22) rfl rfl rfl (fun b62 => ?_)
  refine vp rfl rfl rfl rfl ?_
  rw [ownV_slice hy59]
  refine RunL.keep (Sub.refl _) (.cons (.there .here) rfl (.cons (.there .here) rfl (.cons .here rfl (Pick.refl _)))) ?_
  refine RunL.append (A := [(b5, _), (b4, _)]) (B := _) (x := (some (b62, 0, []))) (ys := byc L) ap_22 rfl rfl rfl OwnOk.empty (by rw [byc_len, Nat.mul_one]) (own_q0 hy59) (fun w hm => by rw [byc_flat]; exact (own_bytes hy59 (fun b o h => hm.at (.tail _ (.tail _ (.tail _ ((by first | exact List.mem_append_left _ h | exact List.mem_append_right _ (List.mem_append_left _ h)))))))).flat (by decide)) (byc_one L) (by simp only [maxLen]; omega) (by omega) rfl (fun z64 hz64 => ?_)
  refine vp rfl rfl rfl rfl ?_
  refine nnx ?_
  refine RunC.seq ?_
  refine RunC.seq ?_
  rw [Nat.zero_add] at hz64 ⊢
  change OwnOk 1 z64 L.length (byc L) at hz64
  refine RunC.region ?_
  refine vp rfl rfl rfl rfl ?_
  refine RunL.val (Val.len_sl rfl sl_22) rfl rfl rfl ?_
  refine vp rfl rfl rfl rfl ?_
  refine nnx ?_
  refine RunC.block ?_
  refine RunC.loopX (X := Str) (n0 := [(b5, _), (b4, _)]) (L.length) (fun k c0 q => (67, .int .i64 (k : Int)) :: q) (fun _ _ => _) (fun k c0 => []) (fun k c0 => (ownB 5 z64 (byc L) ++ (ownB 5 y59 (byc c0) ++ (ownB 5 o1 (byc x.l) ++ (ownB 69 o2 (p.cards.l.map Pt.cells).flatten ++ (ownB 46 o3 (t.fr.l.map Sp.cells).flatten ++ [])))))) (fun k c0 => c0.length = L.length) L rfl rfl (Sub.consE (t := 67) rfl rfl (Sub.cons (t := 2) rfl (Sub.cons (t := 3) rfl (Sub.cons (t := 4) rfl (Sub.cons (t := 5) rfl (Sub.cons (t := 9) rfl (Sub.cons (t := 10) rfl (Sub.cons (t := 11) rfl (Sub.cons (t := 12) rfl (Sub.cons (t := 13) rfl (Sub.cons (t := 14) rfl (Sub.cons (t := 66) rfl (Sub.nil _))))))))))))) (.cons .here rfl (.cons .here rfl (Pick.same rfl))) ?_
  intro k c0 kN kI
  refine csr ?_
  refine vp rfl rfl rfl rfl ?_
  refine nnx ?_
  refine RunC.seq ?_
  refine RunC.cond rfl ?_ ?_
  ·intro c1
   have c1' := c1; clear c1
   try simp only [nH] at c1'
   have hk : k < L.length := by omega
   refine RunC.skip ?_
   refine RunE.next ?_
   refine RunC.seq ?_
   refine RunC.block ?_
   refine csr ?_
   refine vp rfl rfl rfl rfl ?_
   refine vp rfl rfl rfl rfl ?_
   refine nnx ?_
   refine RunC.region ?_
   refine vp rfl rfl rfl rfl ?_
   refine vp rfl rfl rfl rfl ?_
   obtain ⟨by59, cy59, ry59, rfl, ly591, ly592, ly593⟩ := hy59.has (by omega)
   refine RunL.bring [(b5, _), (b4, _)] (ownB _ z64 _) _ _ rfl ?_
   refine RunL.val (Val.indexAddr_sl rfl rfl sl_22 (by omega) (by omega)) rfl rfl rfl ?_
   refine RunL.sto (Sto.store (cs := byc c0 ++ ry59) (cs' := byc (c0.set k 9) ++ ry59) rfl rfl (.there (.there .here)) ty_5 rfl (paste_byte (c := 9) (by omega))) rfl rfl ?_
   refine RunL.nil ?_
   refine RunE.block_normal ?_
   refine RunE.next ?_
   refine RunC.region ?_
   refine RunL.val (Val.add rfl rfl (IntWalk.i64_in _ ⟨by omega, by omega⟩)) rfl rfl rfl ?_
   refine vp rfl rfl rfl rfl ?_
   refine RunL.nil ?_
   exact RunE.roundX (c0.set k 9) (by omega) (by rw [List.length_set]; exact kI) rfl (Sub.consE (t := 67) rfl rfl (Sub.cons (t := 2) rfl (Sub.cons (t := 3) rfl (Sub.cons (t := 4) rfl (Sub.cons (t := 5) rfl (Sub.cons (t := 9) rfl (Sub.cons (t := 10) rfl (Sub.cons (t := 11) rfl (Sub.cons (t := 12) rfl (Sub.cons (t := 13) rfl (Sub.cons (t := 14) rfl (Sub.cons (t := 66) rfl (Sub.nil _))))))))))))) (Pick.cnt fun x => by simp only [nC, spB, ptB, List.nil_append, ownB_some]; omega)
  intro c1
  have c1' := c1; clear c1
  try simp only [nH] at c1'
  refine RunC.exit ?_
  refine RunE.pass_exit ?_
  refine RunE.pass_exit ?_
  refine RunE.block_here ?_
  refine RunE.next ?_
  refine csr ?_
  refine vp rfl rfl rfl rfl ?_
  refine RunL.callNA [(b5, _), (b4, _)] _ rfl (isCall_func rfl ent_12) rfl rfl rfl (fun w hm => grow_news (ReadPrints_calls x.l x.q x.b x.o x.c w (SA.ok.mono0 hS1 (by decide) hm) (by omega))) (fun z76 => ?_)
  obtain ⟨⟨⟨⟨y76, l76⟩, sa76, sb76⟩, e76⟩, h76⟩ := z76
  have o76 : OwnOk 5 y76 l76.length (l76.map Pt.cells).flatten := (rdp_say h76).1
  have hl76 : l76.length ≤ 10000 := (rdp_zero (rdp_say h76).2).2.2
  dsimp only
  iterate 3 refine vp rfl rfl rfl rfl ?_
  refine RunL.new (New.alloc zero_48) rfl rfl rfl (fun b16 => ?_)
  refine RunL.sto (Sto.store (cs := zeroPX.cells) (cs' := (PsX.mk (y76, l76) sa76 sb76).cells) rfl rfl .here ty_48 rfl (paste_over rfl (one_psX (PsX.mk (y76, l76) sa76 sb76)))) rfl rfl ?_
  refine vp rfl rfl rfl rfl ?_
  refine nsr ?_
  refine RunL.new (New.buildSlice0 sl_44) rfl rfl rfl (fun b79 => ?_)
  refine RunL.val (Val.fieldAddr rfl fld_48_0) rfl rfl rfl ?_
  refine RunL.val (Val.load_gen rfl (fun w hm => (run_loadVar_one ty_44 (by rw [cell_of_cells (hm.at (.tail _ (.head _)))]; rfl) : (loadVar 44 ⟨b16, 0 + 0, none⟩).run Tryz.prog w = .ok (ownV y76 l76.length) w))) rfl rfl rfl ?_
  rw [ownV_slice o76]
  refine RunL.keep (Sub.refl _) (.cons (.there .here) rfl (.cons (.there .here) rfl (.cons (.there .here) rfl (.cons .here rfl (Pick.refl _))))) ?_
  refine RunL.append (A := [(b16, _), (b5, _), (b4, _)]) (B := _) (x := (some (b79, 0, []))) (ys := (l76.map Pt.cells).flatten) ap_44 rfl rfl rfl OwnOk.empty pt_len (own_q0 o76) (fun w hm => (own_sl (f := Pt.cells) (fun _ => rfl) (by decide) o76 (fun b o h => hm.at (.tail _ (.tail _ (.tail _ (.tail _ ((by first | exact List.mem_append_left _ h | exact List.mem_append_right _ (List.mem_append_left _ h))))))))).flat (by decide)) pt_one (by simp only [maxLen]; omega) (by omega) rfl (fun z82 hz82 => ?_)
  refine vp rfl rfl rfl rfl ?_
  refine nnx ?_
  refine RunC.seq ?_
  refine RunC.seq ?_
  rw [Nat.zero_add] at hz82 ⊢
  change OwnOk 5 z82 l76.length (l76.map Pt.cells).flatten at hz82
  refine RunC.region ?_
  refine RunL.val (Val.fieldAddr rfl fld_48_0) rfl rfl rfl ?_
  refine RunL.val (Val.load_gen rfl (fun w hm => (run_loadVar_one ty_44 (by rw [cell_of_cells (hm.at (.head _))]; rfl) : (loadVar 44 ⟨b16, 0 + 0, none⟩).run Tryz.prog w = .ok (ownV y76 l76.length) w))) rfl rfl rfl ?_
  refine RunL.val (Val.len_own rfl sl_44 o76) rfl rfl rfl ?_
  refine vp rfl rfl rfl rfl ?_
  refine nnx ?_
  refine RunC.block ?_
  refine RunC.loopX (X := List Pt) (n0 := [(b16, _), (b5, _), (b4, _)]) (l76.length) (fun k c1 q => (86, .int .i64 (k : Int)) :: q) (fun _ _ => _) (fun k c1 => []) (fun k c1 => (ownB 69 z82 (l76.map Pt.cells).flatten ++ (ownB 69 y76 (c1.map Pt.cells).flatten ++ (ownB 5 z64 (byc L) ++ (ownB 5 y59 (byc c0) ++ (ownB 5 o1 (byc x.l) ++ (ownB 69 o2 (p.cards.l.map Pt.cells).flatten ++ (ownB 46 o3 (t.fr.l.map Sp.cells).flatten ++ [])))))))) (fun k c1 => c1.length = l76.length) l76 rfl rfl (Sub.consE (t := 86) rfl rfl (Sub.cons (t := 2) rfl (Sub.cons (t := 3) rfl (Sub.cons (t := 4) rfl (Sub.cons (t := 5) rfl (Sub.cons (t := 9) rfl (Sub.cons (t := 10) rfl (Sub.cons (t := 11) rfl (Sub.cons (t := 13) rfl (Sub.cons (t := 14) rfl (Sub.cons (t := 16) rfl (Sub.cons (t := 17) rfl (Sub.cons (t := 18) rfl (Sub.cons (t := 85) rfl (Sub.nil _))))))))))))))) (.cons .here rfl (.cons .here rfl (.cons .here rfl (Pick.same rfl)))) ?_
  intro k c1 kN kI
  refine csr ?_
  refine vp rfl rfl rfl rfl ?_
  refine nnx ?_
  refine RunC.seq ?_
  refine RunC.cond rfl ?_ ?_
  ·intro c2
   have c2' := c2; clear c2
   try simp only [nH] at c2'
   have hk : k < l76.length := by omega
   refine RunC.skip ?_
   refine RunE.next ?_
   refine RunC.seq ?_
   refine RunC.block ?_
   refine csr ?_
   refine vp rfl rfl rfl rfl ?_
   refine vp rfl rfl rfl rfl ?_
   refine nnx ?_
   refine RunC.region ?_
   refine RunL.val (Val.fieldAddr rfl fld_48_0) rfl rfl rfl ?_
   refine RunL.val (Val.load_gen rfl (fun w hm => (run_loadVar_one ty_44 (by rw [cell_of_cells (hm.at (.head _))]; rfl) : (loadVar 44 ⟨b16, 0 + 0, none⟩).run Tryz.prog w = .ok (ownV y76 l76.length) w))) rfl rfl rfl ?_
   refine vp rfl rfl rfl rfl ?_
   refine RunL.val (Val.build (parts := [(2, .const (.int .i64 (-9)))]) rfl zero_69 places_69 rfl) rfl rfl rfl ?_
   obtain ⟨by76, cy76, ry76, rfl, ly761, ly762, ly763⟩ := o76.has (by omega)
   refine RunL.bring [(b16, _), (b5, _), (b4, _)] (ownB _ z82 _) _ _ rfl ?_
   refine RunL.val (Val.indexAddr_sl rfl rfl sl_44 (by omega) (by omega)) rfl rfl rfl ?_
   refine RunL.sto (Sto.store (cs := (c1.map Pt.cells).flatten ++ ry76) (cs' := ((c1.set k ⟨⟨0, 0⟩, ⟨0, 0⟩, -9⟩).map Pt.cells).flatten ++ ry76) rfl rfl (.there (.there (.there .here))) ty_69 rfl (paste_rowE (f := Pt.cells) (sz := 5) (fun _ => rfl) (a' := ⟨⟨0, 0⟩, ⟨0, 0⟩, -9⟩) (j := 0) (show k < c1.length by omega) rfl (by simp) (by rfl))) rfl rfl ?_
   refine RunL.nil ?_
   refine RunE.block_normal ?_
   refine RunE.next ?_
   refine RunC.region ?_
   refine RunL.val (Val.add rfl rfl (IntWalk.i64_in _ ⟨by omega, by omega⟩)) rfl rfl rfl ?_
   refine vp rfl rfl rfl rfl ?_
   refine RunL.nil ?_
   exact RunE.roundX (c1.set k ⟨⟨0, 0⟩, ⟨0, 0⟩, -9⟩) (by omega) (by rw [List.length_set]; exact kI) rfl (Sub.consE (t := 86) rfl rfl (Sub.cons (t := 2) rfl (Sub.cons (t := 3) rfl (Sub.cons (t := 4) rfl (Sub.cons (t := 5) rfl (Sub.cons (t := 9) rfl (Sub.cons (t := 10) rfl (Sub.cons (t := 11) rfl (Sub.cons (t := 13) rfl (Sub.cons (t := 14) rfl (Sub.cons (t := 16) rfl (Sub.cons (t := 17) rfl (Sub.cons (t := 18) rfl (Sub.cons (t := 85) rfl (Sub.nil _))))))))))))))) (Pick.cnt fun x => by simp only [nC, spB, ptB, List.nil_append, ownB_some]; omega)
  intro c2
  have c2' := c2; clear c2
  try simp only [nH] at c2'
  refine RunC.exit ?_
  refine RunE.pass_exit ?_
  refine RunE.pass_exit ?_
  refine RunE.block_here ?_
  refine RunE.next ?_
  refine csr ?_
  refine vp rfl rfl rfl rfl ?_
  refine RunL.callNA [(b16, _), (b5, _), (b4, _)] _ rfl (isCall_func rfl ent_9) rfl rfl rfl (fun w hm => grow_news (calls_re (nw' := fun z => spB z.1.stay ++ []) (ReadTour_calls s w (hL.mono hm) (by omega)) (fun z => by unfold trB; exact (Pick.cnt fun x => by simp only [nC, spB, ptB, List.nil_append, ownB_some]; omega)))) (fun z97 => ?_)
  obtain ⟨⟨⟨dw97, fr97, wa97, ⟨y97, l97⟩, li97⟩, e97⟩, h97⟩ := z97
  have o97 : OwnOk 2 y97 l97.length (l97.map Sp.cells).flatten := (rdx_okd h97 (zeroTX_ok.le (by decide))).stay
  have hl97 : l97.length ≤ 10000 := (rdx_okd h97 (zeroTX_ok.le (by decide))).s2
  dsimp only
  iterate 3 refine vp rfl rfl rfl rfl ?_
  refine RunL.new (New.alloc zero_27) rfl rfl rfl (fun b20 => ?_)
  refine RunL.sto (Sto.store (cs := zsrdT) (cs' := (TrX.mk dw97 fr97 wa97 (y97, l97) li97).cells) rfl rfl .here ty_27 rfl (paste_over rfl (one_trX (TrX.mk dw97 fr97 wa97 (y97, l97) li97)))) rfl rfl ?_
  refine vp rfl rfl rfl rfl ?_
  refine nsr ?_
  refine RunL.new (New.buildSlice0 sl_24) rfl rfl rfl (fun b100 => ?_)
  refine RunL.val (Val.fieldAddr rfl fld_27_3) rfl rfl rfl ?_
  refine RunL.val (Val.load_gen rfl (fun w hm => (run_loadVar_one ty_24 (by rw [cell_of_cells (hm.at (.tail _ (.head _)))]; rfl) : (loadVar 24 ⟨b20, 0 + 3, none⟩).run Tryz.prog w = .ok (ownV y97 l97.length) w))) rfl rfl rfl ?_
  rw [ownV_slice o97]
  refine RunL.keep (Sub.refl _) (.cons (.there .here) rfl (.cons (.there .here) rfl (.cons (.there .here) rfl (.cons (.there .here) rfl (.cons .here rfl (Pick.refl _)))))) ?_
  refine RunL.append (A := [(b20, _), (b16, _), (b5, _), (b4, _)]) (B := _) (x := (some (b100, 0, []))) (ys := (l97.map Sp.cells).flatten) ap_24 rfl rfl rfl OwnOk.empty sp_len (own_q0 o97) (fun w hm => (own_sl (f := Sp.cells) (fun _ => rfl) (by decide) o97 (fun b o h => hm.at (.tail _ (.tail _ (.tail _ (.tail _ (.tail _ ((by first | exact List.mem_append_left _ h | exact List.mem_append_right _ (List.mem_append_left _ h)))))))))).flat (by decide)) sp_one (by simp only [maxLen]; omega) (by omega) rfl (fun z103 hz103 => ?_)
  refine vp rfl rfl rfl rfl ?_
  refine nnx ?_
  refine RunC.seq ?_
  refine RunC.seq ?_
  rw [Nat.zero_add] at hz103 ⊢
  change OwnOk 2 z103 l97.length (l97.map Sp.cells).flatten at hz103
  refine RunC.region ?_
  refine RunL.val (Val.fieldAddr rfl fld_27_3) rfl rfl rfl ?_
  refine RunL.val (Val.load_gen rfl (fun w hm => (run_loadVar_one ty_24 (by rw [cell_of_cells (hm.at (.head _))]; rfl) : (loadVar 24 ⟨b20, 0 + 3, none⟩).run Tryz.prog w = .ok (ownV y97 l97.length) w))) rfl rfl rfl ?_
  refine RunL.val (Val.len_own rfl sl_24 o97) rfl rfl rfl ?_
  refine vp rfl rfl rfl rfl ?_
  refine nnx ?_
  refine RunC.block ?_
  refine RunC.loopX (X := List Sp) (n0 := [(b20, _), (b16, _), (b5, _), (b4, _)]) (l97.length) (fun k c2 q => (107, .int .i64 (k : Int)) :: q) (fun _ _ => _) (fun k c2 => []) (fun k c2 => (ownB 46 z103 (l97.map Sp.cells).flatten ++ (ownB 46 y97 (c2.map Sp.cells).flatten ++ (ownB 69 z82 (l76.map Pt.cells).flatten ++ (ownB 69 y76 (c1.map Pt.cells).flatten ++ (ownB 5 z64 (byc L) ++ (ownB 5 y59 (byc c0) ++ (ownB 5 o1 (byc x.l) ++ (ownB 69 o2 (p.cards.l.map Pt.cells).flatten ++ (ownB 46 o3 (t.fr.l.map Sp.cells).flatten ++ [])))))))))) (fun k c2 => c2.length = l97.length) l97 rfl rfl (Sub.consE (t := 107) rfl rfl (Sub.cons (t := 2) rfl (Sub.cons (t := 3) rfl (Sub.cons (t := 4) rfl (Sub.cons (t := 5) rfl (Sub.cons (t := 9) rfl (Sub.cons (t := 10) rfl (Sub.cons (t := 11) rfl (Sub.cons (t := 13) rfl (Sub.cons (t := 14) rfl (Sub.cons (t := 17) rfl (Sub.cons (t := 18) rfl (Sub.cons (t := 20) rfl (Sub.cons (t := 21) rfl (Sub.cons (t := 22) rfl (Sub.cons (t := 106) rfl (Sub.nil _))))))))))))))))) (.cons .here rfl (.cons .here rfl (.cons .here rfl (.cons .here rfl (Pick.same rfl))))) ?_
  intro k c2 kN kI
  refine csr ?_
  refine vp rfl rfl rfl rfl ?_
  refine nnx ?_
  refine RunC.seq ?_
  refine RunC.cond rfl ?_ ?_
  ·intro c3
   have c3' := c3; clear c3
   try simp only [nH] at c3'
   have hk : k < l97.length := by omega
   refine RunC.skip ?_
   refine RunE.next ?_
   refine RunC.seq ?_
   refine RunC.block ?_
   refine csr ?_
   refine vp rfl rfl rfl rfl ?_
   refine vp rfl rfl rfl rfl ?_
   refine nnx ?_
   obtain ⟨by97, cy97, ry97, rfl, ly971, ly972, ly973⟩ := o97.has (by omega)
   refine RunC.bring [(b20, _), (b16, _), (b5, _), (b4, _)] (ownB _ z103 _) _ _ rfl ?_
   refine RunC.draw 4 fol_ (.cons .here rfl (.cons .here rfl (.cons .here rfl (.cons .here rfl (.cons .here rfl .nil))))) ?_
   refine va 0 rfl (Val.fieldAddr rfl fld_27_3) rfl rfl rfl (.cons .here rfl (.cons .here rfl (.cons .here rfl (.cons .here rfl (.cons .here rfl .nil))))) rfl ?_
   refine va 1 rfl (Val.load_gen rfl (fun w hm => (run_loadVar_one ty_24 (by rw [cell_of_cells (hm.at (.head _))]; rfl) : (loadVar 24 ⟨b20, 0 + 3, none⟩).run Tryz.prog w = .ok (.slice (some ⟨by97, 0, none⟩) l97.length cy97) w))) rfl rfl rfl (.cons .here rfl (.cons .here rfl (.cons .here rfl (.cons .here rfl (.cons .here rfl .nil))))) rfl ?_
   refine va 2 rfl (Val.pure rfl) rfl rfl rfl (.cons .here rfl (.cons .here rfl (.cons .here rfl (.cons .here rfl (.cons .here rfl .nil))))) rfl ?_
   refine RunA.one (i := 3) (by kernel_rfl) (by kernel_rfl) ?_
   refine RunI.callP rfl (isCall_func rfl ent_24) rfl rfl rfl (fun w hm => lspan_calls _ _ w) (RunK.toA (.cons .here rfl (.cons .here rfl (.cons .here rfl (.cons .here rfl (.cons .here rfl .nil))))) (.cons .here rfl (.cons .here rfl (.cons .here rfl (.cons .here rfl (.cons .here rfl .nil))))) rfl ?_)
   refine RunA.toB (by kernel_rfl) ?_
   refine RunB.one (i := 4) (by kernel_rfl) ?_
   refine RunI.val rfl (Val.indexAddr_sl rfl rfl sl_24 (by omega) (by omega)) rfl rfl rfl (RunK.toB ?_)
   refine RunB.one (i := 5) (by kernel_rfl) ?_
   refine RunI.sto rfl (Sto.store (cs := (c2.map Sp.cells).flatten ++ ry97) (cs' := ((c2.set k ⟨-9, -9⟩).map Sp.cells).flatten ++ ry97) rfl rfl (.there (.there (.there (.there .here)))) ty_46 rfl (paste_rowE (f := Sp.cells) (sz := 2) (fun _ => rfl) (a' := ⟨-9, -9⟩) (j := 0) (show k < c2.length by omega) rfl (by simp) (by rfl))) rfl rfl (RunK.toB ?_)
   refine RunB.done (by kernel_rfl) ?_
   refine RunE.block_normal ?_
   refine RunE.next ?_
   refine RunC.region ?_
   refine RunL.val (Val.add rfl rfl (IntWalk.i64_in _ ⟨by omega, by omega⟩)) rfl rfl rfl ?_
   refine vp rfl rfl rfl rfl ?_
   refine RunL.nil ?_
   exact RunE.roundX (c2.set k ⟨-9, -9⟩) (by omega) (by rw [List.length_set]; exact kI) rfl (Sub.consE (t := 107) rfl rfl (Sub.cons (t := 2) rfl (Sub.cons (t := 3) rfl (Sub.cons (t := 4) rfl (Sub.cons (t := 5) rfl (Sub.cons (t := 9) rfl (Sub.cons (t := 10) rfl (Sub.cons (t := 11) rfl (Sub.cons (t := 13) rfl (Sub.cons (t := 14) rfl (Sub.cons (t := 17) rfl (Sub.cons (t := 18) rfl (Sub.cons (t := 20) rfl (Sub.cons (t := 21) rfl (Sub.cons (t := 22) rfl (Sub.cons (t := 106) rfl (Sub.nil _))))))))))))))))) (Pick.cnt fun x => by simp only [nC, spB, ptB, List.nil_append, ownB_some]; omega)
  intro c3
  have c3' := c3; clear c3
  try simp only [nH] at c3'
  refine RunC.exit ?_
  refine RunE.pass_exit ?_
  refine RunE.pass_exit ?_
  refine RunE.block_here ?_
  refine RunE.next ?_
  refine csr ?_
  refine RunL.val (Val.load_agg rfl (.tail _ (.tail _ (.tail _ (.head _)))) ty_27 rfl) rfl rfl rfl ?_
  refine RunL.callP (isCall_func rfl ent_13) rfl rfl rfl (fun w hm => WriteTour_calls t hst w (hL.mono hm) (hT.mono0 hm)) ?_
  refine nsr ?_
  refine RunL.val (Val.load_agg rfl (.tail _ (.tail _ (.head _))) ty_48 rfl) rfl rfl rfl ?_
  refine RunL.callNA [(b20, _), (b16, _), (b5, _), (b4, _)] _ rfl (isCall_func rfl ent_19) rfl rfl rfl (fun w hm => (writePrints_any p hl40 w (SA.ok.mono0 hP1 (by decide) hm))) (fun z120 => ?_)
  obtain ⟨y120, hy120⟩ := z120
  dsimp only
  rw [hwp] at hy120 ⊢
  iterate 5 refine vp rfl rfl rfl rfl ?_
  refine nsr ?_
  refine vp rfl rfl rfl rfl ?_
  refine RunL.callNA [(b20, _), (b16, _), (b5, _), (b4, _)] _ rfl (isCall_func rfl ent_12) rfl rfl rfl (fun w hm => grow_news (ReadPrints_calls x.l x.q x.b x.o x.c w (SA.ok.mono0 hS1 (by decide) hm) (by omega))) (fun z125 => ?_)
  obtain ⟨⟨⟨⟨y125, l125⟩, sa125, sb125⟩, e125⟩, h125⟩ := z125
  have o125 : OwnOk 5 y125 l125.length (l125.map Pt.cells).flatten := (rdp_say h125).1
  have hl125 : l125.length ≤ 10000 := (rdp_zero (rdp_say h125).2).2.2
  dsimp only
  iterate 3 refine vp rfl rfl rfl rfl ?_
  refine RunL.new (New.alloc zero_48) rfl rfl rfl (fun b26 => ?_)
  refine RunL.sto (Sto.store (cs := zeroPX.cells) (cs' := (PsX.mk (y125, l125) sa125 sb125).cells) rfl rfl .here ty_48 rfl (paste_over rfl (one_psX (PsX.mk (y125, l125) sa125 sb125)))) rfl rfl ?_
  refine vp rfl rfl rfl rfl ?_
  refine nsr ?_
  refine vp rfl rfl rfl rfl ?_
  refine RunL.callNA [(b26, _), (b20, _), (b16, _), (b5, _), (b4, _)] _ rfl (isCall_func rfl ent_9) rfl rfl rfl (fun w hm => grow_news (calls_re (nw' := fun z => spB z.1.stay ++ []) (ReadTour_calls s w (hL.mono hm) (by omega)) (fun z => by unfold trB; exact (Pick.cnt fun x => by simp only [nC, spB, ptB, List.nil_append, ownB_some]; omega)))) (fun z130 => ?_)
  obtain ⟨⟨⟨dw130, fr130, wa130, ⟨y130, l130⟩, li130⟩, e130⟩, h130⟩ := z130
  have o130 : OwnOk 2 y130 l130.length (l130.map Sp.cells).flatten := (rdx_okd h130 (zeroTX_ok.le (by decide))).stay
  have hl130 : l130.length ≤ 10000 := (rdx_okd h130 (zeroTX_ok.le (by decide))).s2
  dsimp only
  iterate 3 refine vp rfl rfl rfl rfl ?_
  refine RunL.new (New.alloc zero_27) rfl rfl rfl (fun b28 => ?_)
  refine RunL.sto (Sto.store (cs := zsrdT) (cs' := (TrX.mk dw130 fr130 wa130 (y130, l130) li130).cells) rfl rfl .here ty_27 rfl (paste_over rfl (one_trX (TrX.mk dw130 fr130 wa130 (y130, l130) li130)))) rfl rfl ?_
  refine vp rfl rfl rfl rfl ?_
  refine nnx ?_
  refine RunC.seq ?_
  have eP := rdp_eq h76 h125
  have eT := rdt_eq h97 h130
  refine RunC.region ?_
  refine vp rfl rfl rfl rfl ?_
  refine vp rfl rfl rfl rfl ?_
  refine RunL.callP (isCall_func rfl ent_20) rfl rfl rfl (fun w hm => (pure_true (by rw [ownV_slice ho1]; exact rsameBytes_calls x ⟨x.l, ownQ o1, ownK o1, 0, ownC o1⟩ w (SA.ok.mono0 hS1 (by decide) hm) (own_bytes ho1 (fun b o h => hm.at (.tail _ (.tail _ (.tail _ (.tail _ (.tail _ (.tail _ ((by first | exact List.mem_append_right _ (List.mem_append_right _ (List.mem_append_right _ (List.mem_append_right _ (List.mem_append_right _ (List.mem_append_right _ (List.mem_append_right _ (List.mem_append_right _ (List.mem_append_right _ (List.mem_append_left _ h))))))))) | exact List.mem_append_right _ (List.mem_append_right _ (List.mem_append_right _ (List.mem_append_right _ (List.mem_append_right _ (List.mem_append_right _ (List.mem_append_right _ (List.mem_append_right _ (List.mem_append_right _ (List.mem_append_right _ (List.mem_append_left _ h))))))))))))))))))))) (show x.l = x.l from rfl))) ?_
  refine vp rfl rfl rfl rfl ?_
  refine RunL.andPart (dj := 136) (dp := 143) 7 rfl (fun g136 => by
    have g136' := g136
    try simp only [nH] at g136'
    rw [ownV_slice ho2]
    refine vp rfl rfl rfl rfl ?_
    refine RunL.val (Val.build (parts := [(0, .tmp 137)]) rfl zero_48 places_48 rfl) rfl rfl rfl ?_
    refine RunL.val (Val.fieldAddr rfl fld_48_0) rfl rfl rfl ?_
    refine RunL.val (Val.load_one rfl (.tail _ (.tail _ (.tail _ (.tail _ (.head _))))) ty_44 rfl) rfl rfl rfl ?_
    refine RunL.val (Val.build (parts := [(0, .tmp 140)]) rfl zero_48 places_48 rfl) rfl rfl rfl ?_
    refine RunL.callP (isCall_func rfl ent_21) rfl rfl rfl (fun w hm => (pure_true (rsamePrints_calls ⟨⟨p.cards.l, ownQ o2, ownK o2, 0, ownC o2⟩, ⟨0, 0⟩, ⟨0, 0⟩⟩ ⟨p.cards, ⟨0, 0⟩, ⟨0, 0⟩⟩ w (own_sl (f := Pt.cells) (fun _ => rfl) (by decide) ho2 (fun b o h => hm.at (.tail _ (.tail _ (.tail _ (.tail _ (.tail _ (.tail _ ((by first | exact List.mem_append_right _ (List.mem_append_right _ (List.mem_append_right _ (List.mem_append_right _ (List.mem_append_right _ (List.mem_append_right _ (List.mem_append_right _ (List.mem_append_right _ (List.mem_append_right _ (List.mem_append_right _ (List.mem_append_left _ h)))))))))) | exact List.mem_append_right _ (List.mem_append_right _ (List.mem_append_right _ (List.mem_append_right _ (List.mem_append_right _ (List.mem_append_right _ (List.mem_append_right _ (List.mem_append_right _ (List.mem_append_right _ (List.mem_append_right _ (List.mem_append_right _ (List.mem_append_left _ h))))))))))))))))))))) (SA.ok.mono0 hP1 (by decide) hm) (by show p.cards.l.length ≤ _; omega) (by show p.cards.l.length ≤ _; omega)) (by rfl))) ?_
    refine vp rfl rfl rfl rfl ?_
    exact RunL.segEnd (Sub.cons rfl (Sub.skip rfl (Sub.skip rfl (Sub.skip rfl (Sub.skip rfl (Sub.skip rfl (Sub.skip rfl (Sub.skip rfl (Sub.same rfl (by rw [g136]) (Sub.refl _)))))))))) (List.Sublist.refl _)
  ) (fun g136 => by
    have g136' := g136
    try simp only [nH] at g136'
    iterate 6 refine RunL.no rfl rfl rfl ?_
    refine vp rfl rfl rfl rfl ?_
    exact RunL.segEnd (Sub.cons rfl (Sub.skip rfl (Sub.skip rfl (Sub.skip rfl (Sub.skip rfl (Sub.skip rfl (Sub.skip rfl (Sub.skip rfl (Sub.same rfl (by rw [g136]) (Sub.refl _)))))))))) (List.Sublist.refl _)
  ) ?_
  refine vp rfl rfl rfl rfl ?_
  refine RunL.andPart (dj := 144) (dp := 149) 5 rfl (fun g144 => by
    have g144' := g144
    try simp only [nH] at g144'
    refine vp rfl rfl rfl rfl ?_
    refine RunL.val (Val.fieldAddr rfl fld_27_1) rfl rfl rfl ?_
    refine RunL.val (Val.load_one rfl (.tail _ (.tail _ (.tail _ (.tail _ (.tail _ (.head _)))))) ty_24 rfl) rfl rfl rfl ?_
    refine RunL.callP (isCall_func rfl ent_25) rfl rfl rfl (fun w hm => (pure_true (by rw [ownV_slice ho3]; exact rSpans_calls ⟨t.fr.l, ownQ o3, ownK o3, 0, ownC o3⟩ t.fr w (own_sl (f := Sp.cells) (fun _ => rfl) (by decide) ho3 (fun b o h => hm.at (.tail _ (.tail _ (.tail _ (.tail _ (.tail _ (.tail _ ((by first | exact List.mem_append_right _ (List.mem_append_right _ (List.mem_append_right _ (List.mem_append_right _ (List.mem_append_right _ (List.mem_append_right _ (List.mem_append_right _ (List.mem_append_right _ (List.mem_append_right _ (List.mem_append_right _ (List.mem_append_right _ (List.mem_append_left _ h))))))))))) | exact List.mem_append_right _ (List.mem_append_right _ (List.mem_append_right _ (List.mem_append_right _ (List.mem_append_right _ (List.mem_append_right _ (List.mem_append_right _ (List.mem_append_right _ (List.mem_append_right _ (List.mem_append_right _ (List.mem_append_right _ (List.mem_append_right _ (List.mem_append_left _ h)))))))))))))))))))))) (SA.ok.mono0 hT.fr (by decide) hm) (by show t.fr.l.length ≤ _; omega) (by omega)) (show t.fr.l = t.fr.l from rfl))) ?_
    refine vp rfl rfl rfl rfl ?_
    exact RunL.segEnd (Sub.cons rfl (Sub.skip rfl (Sub.skip rfl (Sub.skip rfl (Sub.skip rfl (Sub.skip rfl (Sub.same rfl (by rw [g144]) (Sub.refl _)))))))) (List.Sublist.refl _)
  ) (fun g144 => by
    have g144' := g144
    try simp only [nH] at g144'
    iterate 4 refine RunL.no rfl rfl rfl ?_
    refine vp rfl rfl rfl rfl ?_
    exact RunL.segEnd (Sub.cons rfl (Sub.skip rfl (Sub.skip rfl (Sub.skip rfl (Sub.skip rfl (Sub.skip rfl (Sub.same rfl (by rw [g144]) (Sub.refl _)))))))) (List.Sublist.refl _)
  ) ?_
  refine vp rfl rfl rfl rfl ?_
  refine RunL.andPart (dj := 150) (dp := 154) 4 rfl (fun g150 => by
    have g150' := g150
    try simp only [nH] at g150'
    refine vp rfl rfl rfl rfl ?_
    refine vp rfl rfl rfl rfl ?_
    refine RunL.callP (isCall_func rfl ent_20) rfl rfl rfl (fun w hm => (pure_true (by rw [ownV_slice hy120, ownV_slice hz64]; exact rsameBytes_calls ⟨L, ownQ y120, ownK y120, 0, ownC y120⟩ ⟨L, ownQ z64, ownK z64, 0, ownC z64⟩ w (own_bytes hy120 (fun b o h => hm.at (.tail _ (.tail _ (.tail _ (.tail _ (.tail _ (.tail _ ((by first | exact List.mem_append_right _ (List.mem_append_right _ (List.mem_append_left _ h)) | exact List.mem_append_right _ (List.mem_append_right _ (List.mem_append_right _ (List.mem_append_left _ h))))))))))))) (own_bytes hz64 (fun b o h => hm.at (.tail _ (.tail _ (.tail _ (.tail _ (.tail _ (.tail _ ((by first | exact List.mem_append_right _ (List.mem_append_right _ (List.mem_append_right _ (List.mem_append_right _ (List.mem_append_right _ (List.mem_append_right _ (List.mem_append_right _ (List.mem_append_left _ h))))))) | exact List.mem_append_right _ (List.mem_append_right _ (List.mem_append_right _ (List.mem_append_right _ (List.mem_append_right _ (List.mem_append_right _ (List.mem_append_right _ (List.mem_append_right _ (List.mem_append_left _ h))))))))))))))))))) (show L = L from rfl))) ?_
    refine vp rfl rfl rfl rfl ?_
    exact RunL.segEnd (Sub.cons rfl (Sub.skip rfl (Sub.skip rfl (Sub.skip rfl (Sub.skip rfl (Sub.same rfl (by rw [g150]) (Sub.refl _))))))) (List.Sublist.refl _)
  ) (fun g150 => by
    have g150' := g150
    try simp only [nH] at g150'
    iterate 3 refine RunL.no rfl rfl rfl ?_
    refine vp rfl rfl rfl rfl ?_
    exact RunL.segEnd (Sub.cons rfl (Sub.skip rfl (Sub.skip rfl (Sub.skip rfl (Sub.skip rfl (Sub.same rfl (by rw [g150]) (Sub.refl _))))))) (List.Sublist.refl _)
  ) ?_
  refine vp rfl rfl rfl rfl ?_
  refine RunL.andPart (dj := 155) (dp := 162) 7 rfl (fun g155 => by
    have g155' := g155
    try simp only [nH] at g155'
    rw [ownV_slice hz82]
    refine vp rfl rfl rfl rfl ?_
    refine RunL.val (Val.build (parts := [(0, .tmp 156)]) rfl zero_48 places_48 rfl) rfl rfl rfl ?_
    refine RunL.val (Val.fieldAddr rfl fld_48_0) rfl rfl rfl ?_
    refine RunL.val (Val.load_gen rfl (fun w hm => (run_loadVar_one ty_44 (by rw [cell_of_cells (hm.at (.tail _ (.head _)))]; rfl) : (loadVar 44 ⟨b26, 0 + 0, none⟩).run Tryz.prog w = .ok (ownV y125 l125.length) w))) rfl rfl rfl ?_
    rw [ownV_slice o125]
    refine RunL.val (Val.build (parts := [(0, .tmp 159)]) rfl zero_48 places_48 rfl) rfl rfl rfl ?_
    refine RunL.callP (isCall_func rfl ent_21) rfl rfl rfl (fun w hm => (pure_true (rsamePrints_calls ⟨⟨l76, ownQ z82, ownK z82, 0, ownC z82⟩, ⟨0, 0⟩, ⟨0, 0⟩⟩ ⟨⟨l125, ownQ y125, ownK y125, 0, ownC y125⟩, ⟨0, 0⟩, ⟨0, 0⟩⟩ w (own_sl (f := Pt.cells) (fun _ => rfl) (by decide) hz82 (fun b o h => hm.at (.tail _ (.tail _ (.tail _ (.tail _ (.tail _ (.tail _ ((by first | exact List.mem_append_right _ (List.mem_append_right _ (List.mem_append_right _ (List.mem_append_right _ (List.mem_append_right _ (List.mem_append_left _ h))))) | exact List.mem_append_right _ (List.mem_append_right _ (List.mem_append_right _ (List.mem_append_right _ (List.mem_append_right _ (List.mem_append_right _ (List.mem_append_left _ h)))))))))))))))) (own_sl (f := Pt.cells) (fun _ => rfl) (by decide) o125 (fun b o h => hm.at (.tail _ (.tail _ (.tail _ (.tail _ (.tail _ (.tail _ ((by first | exact List.mem_append_right _ (List.mem_append_left _ h) | exact List.mem_append_right _ (List.mem_append_right _ (List.mem_append_left _ h)))))))))))) (by show l76.length ≤ _; omega) (by show l125.length ≤ _; omega)) (by show Ps.mk l76 _ _ = Ps.mk l125 _ _; rw [eP.1]))) ?_
    refine vp rfl rfl rfl rfl ?_
    exact RunL.segEnd (Sub.cons rfl (Sub.skip rfl (Sub.skip rfl (Sub.skip rfl (Sub.skip rfl (Sub.skip rfl (Sub.skip rfl (Sub.skip rfl (Sub.same rfl (by rw [g155]) (Sub.refl _)))))))))) (List.Sublist.refl _)
  ) (fun g155 => by
    have g155' := g155
    try simp only [nH] at g155'
    iterate 6 refine RunL.no rfl rfl rfl ?_
    refine vp rfl rfl rfl rfl ?_
    exact RunL.segEnd (Sub.cons rfl (Sub.skip rfl (Sub.skip rfl (Sub.skip rfl (Sub.skip rfl (Sub.skip rfl (Sub.skip rfl (Sub.skip rfl (Sub.same rfl (by rw [g155]) (Sub.refl _)))))))))) (List.Sublist.refl _)
  ) ?_
  refine vp rfl rfl rfl rfl ?_
  refine RunL.andPart (dj := 163) (dp := 168) 5 rfl (fun g163 => by
    have g163' := g163
    try simp only [nH] at g163'
    refine vp rfl rfl rfl rfl ?_
    refine RunL.val (Val.fieldAddr rfl fld_27_3) rfl rfl rfl ?_
    refine RunL.val (Val.load_gen rfl (fun w hm => (run_loadVar_one ty_24 (by rw [cell_of_cells (hm.at (.head _))]; rfl) : (loadVar 24 ⟨b28, 0 + 3, none⟩).run Tryz.prog w = .ok (ownV y130 l130.length) w))) rfl rfl rfl ?_
    refine RunL.callP (isCall_func rfl ent_25) rfl rfl rfl (fun w hm => (pure_true (by rw [ownV_slice hz103, ownV_slice o130]; exact rSpans_calls ⟨l97, ownQ z103, ownK z103, 0, ownC z103⟩ ⟨l130, ownQ y130, ownK y130, 0, ownC y130⟩ w (own_sl (f := Sp.cells) (fun _ => rfl) (by decide) hz103 (fun b o h => hm.at (.tail _ (.tail _ (.tail _ (.tail _ (.tail _ (.tail _ ((by first | exact List.mem_append_right _ (List.mem_append_right _ (List.mem_append_right _ (List.mem_append_left _ h))) | exact List.mem_append_right _ (List.mem_append_right _ (List.mem_append_right _ (List.mem_append_right _ (List.mem_append_left _ h)))))))))))))) (own_sl (f := Sp.cells) (fun _ => rfl) (by decide) o130 (fun b o h => hm.at (.tail _ (.tail _ (.tail _ (.tail _ (.tail _ (.tail _ ((by first | exact List.mem_append_left _ h | exact List.mem_append_right _ (List.mem_append_left _ h))))))))))) (by show l97.length ≤ _; omega) (by show l130.length ≤ _; omega)) (show l97 = l130 from eT.1))) ?_
    refine vp rfl rfl rfl rfl ?_
    exact RunL.segEnd (Sub.cons rfl (Sub.skip rfl (Sub.skip rfl (Sub.skip rfl (Sub.skip rfl (Sub.skip rfl (Sub.same rfl (by rw [g163]) (Sub.refl _)))))))) (List.Sublist.refl _)
  ) (fun g163 => by
    have g163' := g163
    try simp only [nH] at g163'
    iterate 4 refine RunL.no rfl rfl rfl ?_
    refine vp rfl rfl rfl rfl ?_
    exact RunL.segEnd (Sub.cons rfl (Sub.skip rfl (Sub.skip rfl (Sub.skip rfl (Sub.skip rfl (Sub.skip rfl (Sub.same rfl (by rw [g163]) (Sub.refl _)))))))) (List.Sublist.refl _)
  ) ?_
  refine vp rfl rfl rfl rfl ?_
  refine RunL.andPart (dj := 169) (dp := 173) 4 rfl (fun g169 => by
    have g169' := g169
    try simp only [nH] at g169'
    iterate 4 refine vp rfl rfl rfl rfl ?_
    exact RunL.segEnd (Sub.cons rfl (Sub.skip rfl (Sub.skip rfl (Sub.skip rfl (Sub.skip rfl (Sub.same rfl (by rw [g169]) (Sub.refl _))))))) (List.Sublist.refl _)
  ) (fun g169 => by
    have g169' := g169
    try simp only [nH] at g169'
    iterate 3 refine RunL.no rfl rfl rfl ?_
    refine vp rfl rfl rfl rfl ?_
    exact RunL.segEnd (Sub.cons rfl (Sub.skip rfl (Sub.skip rfl (Sub.skip rfl (Sub.skip rfl (Sub.same rfl (by rw [g169]) (Sub.refl _))))))) (List.Sublist.refl _)
  ) ?_
  refine vp rfl rfl rfl rfl ?_
  refine RunL.andPart (dj := 174) (dp := 178) 4 rfl (fun g174 => by
    have g174' := g174
    try simp only [nH] at g174'
    iterate 4 refine vp rfl rfl rfl rfl ?_
    exact RunL.segEnd (Sub.cons rfl (Sub.skip rfl (Sub.skip rfl (Sub.skip rfl (Sub.skip rfl (Sub.same rfl (by rw [g174]) (Sub.refl _))))))) (List.Sublist.refl _)
  ) (fun g174 => by
    have g174' := g174
    try simp only [nH] at g174'
    iterate 3 refine RunL.no rfl rfl rfl ?_
    refine vp rfl rfl rfl rfl ?_
    exact RunL.segEnd (Sub.cons rfl (Sub.skip rfl (Sub.skip rfl (Sub.skip rfl (Sub.skip rfl (Sub.same rfl (by rw [g174]) (Sub.refl _))))))) (List.Sublist.refl _)
  ) ?_
  refine vp rfl rfl rfl rfl ?_
  refine RunL.andPart (dj := 179) (dp := 183) 4 rfl (fun g179 => by
    have g179' := g179
    try simp only [nH] at g179'
    iterate 4 refine vp rfl rfl rfl rfl ?_
    exact RunL.segEnd (Sub.cons rfl (Sub.skip rfl (Sub.skip rfl (Sub.skip rfl (Sub.skip rfl (Sub.same rfl (by rw [g179]) (Sub.refl _))))))) (List.Sublist.refl _)
  ) (fun g179 => by
    have g179' := g179
    try simp only [nH] at g179'
    iterate 3 refine RunL.no rfl rfl rfl ?_
    refine vp rfl rfl rfl rfl ?_
    exact RunL.segEnd (Sub.cons rfl (Sub.skip rfl (Sub.skip rfl (Sub.skip rfl (Sub.skip rfl (Sub.same rfl (by rw [g179]) (Sub.refl _))))))) (List.Sublist.refl _)
  ) ?_
  refine vp rfl rfl rfl rfl ?_
  refine RunL.andPart (dj := 184) (dp := 186) 2 rfl (fun g184 => by
    have g184' := g184
    try simp only [nH] at g184'
    refine RunL.callP (isCall_func rfl ent_8) rfl rfl rfl (fun w hm => alive_calls w (hL.mono hm)) ?_
    refine vp rfl rfl rfl rfl ?_
    exact RunL.segEnd (Sub.cons rfl (Sub.skip rfl (Sub.skip rfl (Sub.same rfl (by rw [g184]) (Sub.refl _))))) (List.Sublist.refl _)
  ) (fun g184 => by
    have g184' := g184
    try simp only [nH] at g184'
    refine RunL.no rfl rfl rfl ?_
    refine vp rfl rfl rfl rfl ?_
    exact RunL.segEnd (Sub.cons rfl (Sub.skip rfl (Sub.skip rfl (Sub.same rfl (by rw [g184]) (Sub.refl _))))) (List.Sublist.refl _)
  ) ?_
  refine vp rfl rfl rfl rfl ?_
  refine nnx ?_
  refine RunC.ret ?_
  exact RunE.retP (.r1 rfl (.tmp rfl)) (by rw [eP.2, eT.2]; simp)
theorem bookOwns_walk (W : World) (vs : List Value) (hL : Lw Tryz.prog W) (h : RdAll W [trSh, psSh, .sl (.int .u8), .str] vs) : Calls Tryz.prog 5 vs.toArray W (Pure (.bool true) W) := by
  cases h with
  | cons h1 h =>
  cases h with
  | cons h2 h =>
  cases h with
  | cons h3 h =>
  cases h with
  | cons h4 h =>
  cases h
  obtain ⟨t, rfl, ht, hn1, hq⟩ := rd_trq h1
  obtain ⟨p, rfl, hp⟩ := rd_ps h2
  obtain ⟨x, rfl, hx⟩ := rd_by h3
  obtain ⟨s, rfl, _⟩ := rd_str h4
  exact owns_law t p x s W hL ht hq (Nat.le_trans hn1 (by decide)) hp hx
end Go.Proofs.YtleamcmljcdapabGreatDoor
