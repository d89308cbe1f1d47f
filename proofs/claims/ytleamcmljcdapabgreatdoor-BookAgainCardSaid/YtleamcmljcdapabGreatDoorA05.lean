/- Walks of the reference of layer 14: what is the same: cabinets, royalties, bytes. -/
import Derived.Test.YtleamcmljcdapabGreatDoorA04
import Derived.Test.YtleamcmljcdapabGreatDoorRows
import Derived.Lib.LaidTab
import Derived.Stop.LaidErr
import Derived.MakeChecks
import Derived.Shelf.Vars
import Derived.Handed
import Derived.HandedShaped
import Derived.Lay
set_option linter.unusedSimpArgs false
set_option linter.unusedVariables false
namespace Go.Bk
open Go Go.Eng Go.RowKit
theorem cb_same {p q : Cb} (h : p.loans = q.loans) : decide (p = q) = (decide (p.slots = q.slots) && (decide (p.wrong = q.wrong) && decide (p.homes = q.homes))) := by
  cases p; cases q; simp_all
  exact Bool.eq_iff_iff.2 (by simp; intro _; exact and_comm)
theorem cb_ne {p q : Cb} (h : p.loans ≠ q.loans) : decide (p = q) = false := decide_eq_false fun e => h (e ▸ rfl)
theorem ry_same {p q : Ry} (h1 : p.terms = q.terms) (h2 : p.shares = q.shares) (h3 : p.reports = q.reports) : decide (p = q) = (decide (p.prices = q.prices) && decide (p.paid = q.paid)) := by
  cases p; cases q; simp_all
theorem ry_ne1 {p q : Ry} (h : p.terms ≠ q.terms) : decide (p = q) = false := decide_eq_false fun e => h (e ▸ rfl)
theorem ry_ne2 {p q : Ry} (h : p.shares ≠ q.shares) : decide (p = q) = false := decide_eq_false fun e => h (e ▸ rfl)
theorem ry_ne3 {p q : Ry} (h : p.reports ≠ q.reports) : decide (p = q) = false := decide_eq_false fun e => h (e ▸ rfl)
end Go.Bk
namespace Go.Proofs.YtleamcmljcdapabGreatDoor
open Go Go.Eng Go.Bk Go.RowKit

theorem rsameCabinet_calls (c d : CbA) (hs : CbS c) (hs2 : CbS d) (W : World) (hC : CbOk W c) (hD : CbOk W d) : Calls Tryz.prog 16 #[c.v, d.v] W (Pure (.bool (decide (c.pl = d.pl))) W) := by
  have s1 := hs.homes
  have s2 := hs.loans
  have u1 := hs2.homes
  have u2 := hs2.loans
  refine calls_start Tryz.func16 rfl rfl ?_
  refine st ?_
  refine RunL.new (New.box rfl) rfl rfl rfl (fun b2 => ?_)
  refine RunL.new (New.box rfl) rfl rfl rfl (fun b3 => ?_)
  refine st ?_
  refine lv (Val.fieldAddr rfl fld_34_3) ?_
  refine lv (Val.load_one rfl (.tail _ (.head _)) ty_32 rfl) ?_
  refine lv (Val.len_sl rfl sl_32) ?_
  refine lv (Val.fieldAddr rfl fld_34_3) ?_
  refine lv (Val.load_one rfl (.head _) ty_32 rfl) ?_
  refine lv (Val.len_sl rfl sl_32) ?_
  refine cn rfl ?_ ?_
  ·intro c0'
   refine st ?_
   refine RunC.ret ?_
   refine RunE.pass_ret ?_
   exact RunE.retP (.r1 rfl (.tmp rfl)) (by first | (rw [cb_ne (show c.pl.loans ≠ d.pl.loans from ne_at hk hk2 hx hy (by rintro rfl; simp_all))]; done) | (rw [cb_ne (show c.pl.loans ≠ d.pl.loans from ne_len (show c.loans.l.length ≠ d.loans.l.length by omega))]; done) | (rw [cb_same (show c.pl.loans = d.pl.loans from eq_end (show c.loans.l.length = d.loans.l.length by omega) kI)]; exact congrArg Value.bool (by rw [Bool.and_assoc]; rfl)))
  intro c0'
  refine st ?_
  refine RunC.loopK (c.loans.l.length) (fun k q => (5, .int .i64 (k : Int)) :: q) (fun _ => _) (fun _ => []) (fun k => c.loans.l.take k = d.loans.l.take k) (by simp) rfl (Sub.consE (t := 5) rfl rfl (Sub.cons (t := 2) rfl (Sub.cons (t := 3) rfl (Sub.nil _)))) (.cons .here rfl (.cons .here rfl .nil)) ?_
  intro k kN kI
  refine st ?_
  refine lv (Val.fieldAddr rfl fld_34_3) ?_
  refine lv (Val.load_one rfl (.tail _ (.head _)) ty_32 rfl) ?_
  refine lv (Val.len_sl rfl sl_32) ?_
  refine cn rfl ?_ ?_
  ·intro c1'
   have hk : k < c.loans.l.length := by omega
   have hk2 : k < d.loans.l.length := by omega
   obtain ⟨x, hx⟩ : ∃ x, c.loans.l[k] = x := ⟨_, rfl⟩
   obtain ⟨y, hy⟩ : ∃ y, d.loans.l[k] = y := ⟨_, rfl⟩
   refine st ?_
   refine RunC.draw 10 fol_ (.cons .here rfl (.cons .here rfl .nil)) ?_
   refine va 0 rfl (Val.fieldAddr rfl fld_34_3) rfl rfl rfl (.cons .here rfl (.cons .here rfl .nil)) rfl ?_
   refine va 1 rfl (Val.load_one rfl (.tail _ (.head _)) ty_32 rfl) rfl rfl rfl (.cons .here rfl (.cons .here rfl .nil)) rfl ?_
   refine va 2 rfl (Val.pure rfl) rfl rfl rfl (.cons .here rfl (.cons .here rfl .nil)) rfl ?_
   refine va 3 rfl (Val.indexAddr_slp rfl rfl sl_32 (by omega) (by omega) (Sl.ptrM hC.loans hk)) rfl rfl rfl (.cons .here rfl (.cons .here rfl .nil)) rfl ?_
   refine va 4 rfl (Val.load_gen rfl (fun w hm => Sl.loadX hC.loans (by decide) hm (by simp) ty_74 hk hx)) rfl rfl rfl (.cons .here rfl (.cons .here rfl .nil)) rfl ?_
   refine va 5 rfl (Val.fieldAddr rfl fld_34_3) rfl rfl rfl (.cons .here rfl (.cons .here rfl .nil)) rfl ?_
   refine va 6 rfl (Val.load_one rfl (.head _) ty_32 rfl) rfl rfl rfl (.cons .here rfl (.cons .here rfl .nil)) rfl ?_
   refine va 7 rfl (Val.pure rfl) rfl rfl rfl (.cons .here rfl (.cons .here rfl .nil)) rfl ?_
   refine va 8 rfl (Val.indexAddr_slp rfl rfl sl_32 (by omega) (by omega) (Sl.ptrM hD.loans hk2)) rfl rfl rfl (.cons .here rfl (.cons .here rfl .nil)) rfl ?_
   refine va 9 rfl (Val.load_gen rfl (fun w hm => Sl.loadX hD.loans (by decide) hm (by simp) ty_74 hk2 hy)) rfl rfl rfl (.cons .here rfl (.cons .here rfl .nil)) rfl ?_
   refine RunA.toB (by kernel_rfl) ?_
   refine RunB.one (i := 10) (by kernel_rfl) ?_
   refine RunI.val rfl (Val.neq_flat rfl rfl eqB_74 (kl_74 _ _ _ _ _ _ _ _ )) rfl rfl rfl (RunK.toB ?_)
   refine RunB.done (by kernel_rfl) ?_
   refine st ?_
   refine cn rfl ?_ ?_
   ·intro c2'
    refine st ?_
    refine RunC.ret ?_
    refine RunE.block_ret ?_
    refine RunE.pass_ret ?_
    refine RunE.pass_ret ?_
    refine RunE.block_ret ?_
    refine RunE.pass_ret ?_
    exact RunE.retP (.r1 rfl (.tmp rfl)) (by first | (rw [cb_ne (show c.pl.loans ≠ d.pl.loans from ne_at hk hk2 hx hy (by rintro rfl; simp_all))]; done) | (rw [cb_ne (show c.pl.loans ≠ d.pl.loans from ne_len (show c.loans.l.length ≠ d.loans.l.length by omega))]; done) | (rw [cb_same (show c.pl.loans = d.pl.loans from eq_end (show c.loans.l.length = d.loans.l.length by omega) kI)]; exact congrArg Value.bool (by rw [Bool.and_assoc]; rfl)))
   intro c2'
   refine st ?_
   refine lv (Val.add rfl rfl (IntWalk.i64_in _ ⟨by omega, by omega⟩)) ?_
   exact RunE.round (by omega) (eqT_step hk hk2 hx hy kI (by cases x; cases y; simp_all)) rfl (Sub.consE (t := 5) rfl rfl (Sub.cons (t := 2) rfl (Sub.cons (t := 3) rfl (Sub.nil _)))) (.cons .here rfl (.cons .here rfl .nil))
  intro c1'
  obtain rfl : k = c.loans.l.length := by omega
  refine RunC.exit ?_
  refine RunE.pass_exit ?_
  refine RunE.pass_exit ?_
  refine RunE.block_here ?_
  refine st ?_
  refine lv (Val.fieldAddr rfl fld_34_0) ?_
  refine lv (Val.load_one rfl (.tail _ (.head _)) ty_3 rfl) ?_
  refine lv (Val.fieldAddr rfl fld_34_0) ?_
  refine lv (Val.load_one rfl (.head _) ty_3 rfl) ?_
  refine RunL.andPart (dj := 36) (dp := 42) 6 rfl (fun g36 => by
    have g36' := g36
    try simp only [nH] at g36'
    refine lv (Val.fieldAddr rfl fld_34_2) ?_
    refine lv (Val.load_one rfl (.tail _ (.head _)) ty_3 rfl) ?_
    refine lv (Val.fieldAddr rfl fld_34_2) ?_
    refine RunL.val (Val.load_one rfl (.head _) ty_3 rfl) rfl rfl rfl ?_
    refine sv ?_
    exact RunL.segEnd (Sub.cons rfl (Sub.skip rfl (Sub.skip rfl (Sub.skip rfl (Sub.skip rfl (Sub.skip rfl (Sub.skip rfl (Sub.same rfl (by rw [g36]) (Sub.refl _))))))))) (List.Sublist.refl _)
  ) (fun g36 => by
    have g36' := g36
    try simp only [nH] at g36'
    iterate 5 refine RunL.no rfl rfl rfl ?_
    refine sv ?_
    exact RunL.segEnd (Sub.cons rfl (Sub.skip rfl (Sub.skip rfl (Sub.skip rfl (Sub.skip rfl (Sub.skip rfl (Sub.skip rfl (Sub.same rfl (by rw [g36]) (Sub.refl _))))))))) (List.Sublist.refl _)
  ) ?_
  refine st ?_
  refine RunL.andPart (dj := 43) (dp := 49) 6 rfl (fun g43 => by
    have g43' := g43
    try simp only [nH] at g43'
    refine lv (Val.fieldAddr rfl fld_34_1) ?_
    refine lv (Val.load_one rfl (.tail _ (.head _)) ty_31 rfl) ?_
    refine lv (Val.fieldAddr rfl fld_34_1) ?_
    refine lv (Val.load_one rfl (.head _) ty_31 rfl) ?_
    refine RunL.callP (isCall_func rfl ent_51) rfl rfl rfl (fun w hm => (rsameInts_calls c.homes d.homes w (hC.homes.mono0 (by decide) hm) (hD.homes.mono0 (by decide) hm) (by omega) (by omega))) ?_
    refine sv ?_
    exact RunL.segEnd (Sub.cons rfl (Sub.skip rfl (Sub.skip rfl (Sub.skip rfl (Sub.skip rfl (Sub.skip rfl (Sub.skip rfl (Sub.same rfl (by rw [g43]) (Sub.refl _))))))))) (List.Sublist.refl _)
  ) (fun g43 => by
    have g43' := g43
    try simp only [nH] at g43'
    iterate 5 refine RunL.no rfl rfl rfl ?_
    refine sv ?_
    exact RunL.segEnd (Sub.cons rfl (Sub.skip rfl (Sub.skip rfl (Sub.skip rfl (Sub.skip rfl (Sub.skip rfl (Sub.skip rfl (Sub.same rfl (by rw [g43]) (Sub.refl _))))))))) (List.Sublist.refl _)
  ) ?_
  refine st ?_
  refine RunC.ret ?_
  exact RunE.retP (.r1 rfl (.tmp rfl)) (by first | (rw [cb_ne (show c.pl.loans ≠ d.pl.loans from ne_at hk hk2 hx hy (by rintro rfl; simp_all))]; done) | (rw [cb_ne (show c.pl.loans ≠ d.pl.loans from ne_len (show c.loans.l.length ≠ d.loans.l.length by omega))]; done) | (rw [cb_same (show c.pl.loans = d.pl.loans from eq_end (show c.loans.l.length = d.loans.l.length by omega) kI)]; exact congrArg Value.bool (by rw [Bool.and_assoc]; rfl)))
theorem rsameRoyal_calls (r q : RyA) (hs : RySm r) (hs2 : RySm q) (W : World) (hR : RyOk W r) (hQ : RyOk W q) : Calls Tryz.prog 18 #[r.v, q.v] W (Pure (.bool (decide (r.pl = q.pl))) W) := by
  obtain ⟨s1, s2, s3, s4, s5, s6⟩ := id hs
  obtain ⟨u1, u2, u3, u4, u5, u6⟩ := id hs2
  refine calls_start Tryz.func18 rfl rfl ?_
  refine st ?_
  refine RunL.new (New.box rfl) rfl rfl rfl (fun b2 => ?_)
  refine RunL.new (New.box rfl) rfl rfl rfl (fun b3 => ?_)
  refine st ?_
  refine lv (Val.fieldAddr rfl fld_41_0) ?_
  refine lv (Val.load_one rfl (.tail _ (.head _)) ty_37 rfl) ?_
  refine lv (Val.len_sl rfl sl_37) ?_
  refine lv (Val.fieldAddr rfl fld_41_0) ?_
  refine lv (Val.load_one rfl (.head _) ty_37 rfl) ?_
  refine lv (Val.len_sl rfl sl_37) ?_
  refine RunL.orPart (dj := 15) (dp := 23) 8 rfl (fun g15 => by
    have g15' := g15
    try simp only [nH] at g15'
    refine lv (Val.fieldAddr rfl fld_41_2) ?_
    refine lv (Val.load_one rfl (.tail _ (.head _)) ty_38 rfl) ?_
    refine lv (Val.len_sl rfl sl_38) ?_
    refine lv (Val.fieldAddr rfl fld_41_2) ?_
    refine lv (Val.load_one rfl (.head _) ty_38 rfl) ?_
    refine RunL.val (Val.len_sl rfl sl_38) rfl rfl rfl ?_
    refine sv ?_
    exact RunL.segEnd (Sub.cons rfl (Sub.skip rfl (Sub.skip rfl (Sub.skip rfl (Sub.skip rfl (Sub.skip rfl (Sub.skip rfl (Sub.skip rfl (Sub.skip rfl (Sub.same rfl (by rw [g15]) (Sub.refl _))))))))))) (List.Sublist.refl _)
  ) (fun g15 => by
    have g15' := g15
    try simp only [nH] at g15'
    iterate 7 refine RunL.no rfl rfl rfl ?_
    refine sv ?_
    exact RunL.segEnd (Sub.cons rfl (Sub.skip rfl (Sub.skip rfl (Sub.skip rfl (Sub.skip rfl (Sub.skip rfl (Sub.skip rfl (Sub.skip rfl (Sub.skip rfl (Sub.same rfl (by rw [g15]) (Sub.refl _))))))))))) (List.Sublist.refl _)
  ) ?_
  refine st ?_
  refine RunL.orPart (dj := 24) (dp := 32) 8 rfl (fun g24 => by
    have g24' := g24
    try simp only [nH] at g24'
    refine lv (Val.fieldAddr rfl fld_41_3) ?_
    refine lv (Val.load_one rfl (.tail _ (.head _)) ty_39 rfl) ?_
    refine lv (Val.len_sl rfl sl_39) ?_
    refine lv (Val.fieldAddr rfl fld_41_3) ?_
    refine lv (Val.load_one rfl (.head _) ty_39 rfl) ?_
    refine RunL.val (Val.len_sl rfl sl_39) rfl rfl rfl ?_
    refine sv ?_
    exact RunL.segEnd (Sub.cons rfl (Sub.skip rfl (Sub.skip rfl (Sub.skip rfl (Sub.skip rfl (Sub.skip rfl (Sub.skip rfl (Sub.skip rfl (Sub.skip rfl (Sub.same rfl (by rw [g24]) (Sub.refl _))))))))))) (List.Sublist.refl _)
  ) (fun g24 => by
    have g24' := g24
    try simp only [nH] at g24'
    iterate 7 refine RunL.no rfl rfl rfl ?_
    refine sv ?_
    exact RunL.segEnd (Sub.cons rfl (Sub.skip rfl (Sub.skip rfl (Sub.skip rfl (Sub.skip rfl (Sub.skip rfl (Sub.skip rfl (Sub.skip rfl (Sub.skip rfl (Sub.same rfl (by rw [g24]) (Sub.refl _))))))))))) (List.Sublist.refl _)
  ) ?_
  refine st ?_
  refine cn rfl ?_ ?_
  ·intro c0'
   refine st ?_
   refine RunC.ret ?_
   refine RunE.pass_ret ?_
   exact RunE.retP (.r1 rfl (.tmp rfl)) (by first | (rw [ry_same f1 f2 f3]; rfl) | (rw [ry_ne3 (show r.pl.reports ≠ q.pl.reports from ne_at hk hk2 hx hy (by rintro rfl; simp_all))]; done) | (rw [ry_ne2 (show r.pl.shares ≠ q.pl.shares from mapT_ne hk hk2 hx hy (by simp_all))]; done) | (rw [ry_ne1 (show r.pl.terms ≠ q.pl.terms from ne_at hk hk2 hx hy (by rintro rfl; simp_all))]; done) | (refine congrArg Value.bool (decide_eq_false fun e => ?_).symm; have d1 : r.terms.l.length = q.terms.l.length := congrArg (fun z : Ry => z.terms.length) e; have d2 : r.pl.shares.length = q.pl.shares.length := congrArg (fun z : Ry => z.shares.length) e; have d3 : r.reports.l.length = q.reports.l.length := congrArg (fun z : Ry => z.reports.length) e; simp only [RyA.pl, List.length_map] at d2; simp_all; done))
  intro c0'
  have e1 : r.terms.l.length = q.terms.l.length := by (have := c0'.1.1; omega)
  have e2 : r.shares.l.length = q.shares.l.length := by (have := c0'.1.2; omega)
  have e3 : r.reports.l.length = q.reports.l.length := by (have := c0'.2; omega)
  refine st ?_
  refine RunC.loopK (r.terms.l.length) (fun k q => (5, .int .i64 (k : Int)) :: q) (fun _ => _) (fun _ => []) (fun k => r.terms.l.take k = q.terms.l.take k) (by simp) rfl (Sub.consE (t := 5) rfl rfl (Sub.cons (t := 2) rfl (Sub.cons (t := 3) rfl (Sub.nil _)))) (.cons .here rfl (.cons .here rfl .nil)) ?_
  intro k kN kI
  refine st ?_
  refine lv (Val.fieldAddr rfl fld_41_0) ?_
  refine lv (Val.load_one rfl (.tail _ (.head _)) ty_37 rfl) ?_
  refine lv (Val.len_sl rfl sl_37) ?_
  refine cn rfl ?_ ?_
  ·intro c1'
   have hk : k < r.terms.l.length := by omega
   have hk2 : k < q.terms.l.length := by omega
   obtain ⟨x, hx⟩ : ∃ x, r.terms.l[k] = x := ⟨_, rfl⟩
   obtain ⟨y, hy⟩ : ∃ y, q.terms.l[k] = y := ⟨_, rfl⟩
   refine st ?_
   refine RunC.draw 10 fol_ (.cons .here rfl (.cons .here rfl .nil)) ?_
   refine va 0 rfl (Val.fieldAddr rfl fld_41_0) rfl rfl rfl (.cons .here rfl (.cons .here rfl .nil)) rfl ?_
   refine va 1 rfl (Val.load_one rfl (.tail _ (.head _)) ty_37 rfl) rfl rfl rfl (.cons .here rfl (.cons .here rfl .nil)) rfl ?_
   refine va 2 rfl (Val.pure rfl) rfl rfl rfl (.cons .here rfl (.cons .here rfl .nil)) rfl ?_
   refine va 3 rfl (Val.indexAddr_slp rfl rfl sl_37 (by omega) (by omega) (Sl.ptrM hR.terms hk)) rfl rfl rfl (.cons .here rfl (.cons .here rfl .nil)) rfl ?_
   refine va 4 rfl (Val.load_gen rfl (fun w hm => Sl.loadX hR.terms (by decide) hm (by simp) ty_124 hk hx)) rfl rfl rfl (.cons .here rfl (.cons .here rfl .nil)) rfl ?_
   refine va 5 rfl (Val.fieldAddr rfl fld_41_0) rfl rfl rfl (.cons .here rfl (.cons .here rfl .nil)) rfl ?_
   refine va 6 rfl (Val.load_one rfl (.head _) ty_37 rfl) rfl rfl rfl (.cons .here rfl (.cons .here rfl .nil)) rfl ?_
   refine va 7 rfl (Val.pure rfl) rfl rfl rfl (.cons .here rfl (.cons .here rfl .nil)) rfl ?_
   refine va 8 rfl (Val.indexAddr_slp rfl rfl sl_37 (by omega) (by omega) (Sl.ptrM hQ.terms hk2)) rfl rfl rfl (.cons .here rfl (.cons .here rfl .nil)) rfl ?_
   refine va 9 rfl (Val.load_gen rfl (fun w hm => Sl.loadX hQ.terms (by decide) hm (by simp) ty_124 hk2 hy)) rfl rfl rfl (.cons .here rfl (.cons .here rfl .nil)) rfl ?_
   refine RunA.toB (by kernel_rfl) ?_
   refine RunB.one (i := 10) (by kernel_rfl) ?_
   refine RunI.val rfl (Val.neq_flat rfl rfl eqB_124 (kl_124 _ _ _ _ _ _ )) rfl rfl rfl (RunK.toB ?_)
   refine RunB.done (by kernel_rfl) ?_
   refine st ?_
   refine cn rfl ?_ ?_
   ·intro c2'
    refine st ?_
    refine RunC.ret ?_
    refine RunE.block_ret ?_
    refine RunE.pass_ret ?_
    refine RunE.pass_ret ?_
    refine RunE.block_ret ?_
    refine RunE.pass_ret ?_
    exact RunE.retP (.r1 rfl (.tmp rfl)) (by first | (rw [ry_same f1 f2 f3]; rfl) | (rw [ry_ne3 (show r.pl.reports ≠ q.pl.reports from ne_at hk hk2 hx hy (by rintro rfl; simp_all))]; done) | (rw [ry_ne2 (show r.pl.shares ≠ q.pl.shares from mapT_ne hk hk2 hx hy (by simp_all))]; done) | (rw [ry_ne1 (show r.pl.terms ≠ q.pl.terms from ne_at hk hk2 hx hy (by rintro rfl; simp_all))]; done) | (refine congrArg Value.bool (decide_eq_false fun e => ?_).symm; have d1 : r.terms.l.length = q.terms.l.length := congrArg (fun z : Ry => z.terms.length) e; have d2 : r.pl.shares.length = q.pl.shares.length := congrArg (fun z : Ry => z.shares.length) e; have d3 : r.reports.l.length = q.reports.l.length := congrArg (fun z : Ry => z.reports.length) e; simp only [RyA.pl, List.length_map] at d2; simp_all; done))
   intro c2'
   refine st ?_
   refine lv (Val.add rfl rfl (IntWalk.i64_in _ ⟨by omega, by omega⟩)) ?_
   exact RunE.round (by omega) (eqT_step hk hk2 hx hy kI (by cases x; cases y; simp_all)) rfl (Sub.consE (t := 5) rfl rfl (Sub.cons (t := 2) rfl (Sub.cons (t := 3) rfl (Sub.nil _)))) (.cons .here rfl (.cons .here rfl .nil))
  intro c1'
  obtain rfl : k = r.terms.l.length := by omega
  have f1 : r.pl.terms = q.pl.terms := eq_end e1 kI
  clear kI kN
  refine RunC.exit ?_
  refine RunE.pass_exit ?_
  refine RunE.pass_exit ?_
  refine RunE.block_here ?_
  refine st ?_
  refine RunC.loopK (r.shares.l.length) (fun k q => (6, .int .i64 (k : Int)) :: q) (fun _ => _) (fun _ => []) (fun k => (r.shares.l.map (·.l)).take k = (q.shares.l.map (·.l)).take k) (by simp) rfl (Sub.consE (t := 6) rfl rfl (Sub.cons (t := 2) rfl (Sub.cons (t := 3) rfl (Sub.nil _)))) (.cons .here rfl (.cons .here rfl .nil)) ?_
  intro k kN kI
  refine st ?_
  refine lv (Val.fieldAddr rfl fld_41_2) ?_
  refine lv (Val.load_one rfl (.tail _ (.head _)) ty_38 rfl) ?_
  refine lv (Val.len_sl rfl sl_38) ?_
  refine cn rfl ?_ ?_
  ·intro c3'
   have hk : k < r.shares.l.length := by omega
   have hk2 : k < q.shares.l.length := by omega
   obtain ⟨x, hx⟩ : ∃ x, r.shares.l[k] = x := ⟨_, rfl⟩
   obtain ⟨y, hy⟩ : ∃ y, q.shares.l[k] = y := ⟨_, rfl⟩
   have hxm : x ∈ r.shares.l := hx ▸ List.getElem_mem hk
   have hym : y ∈ q.shares.l := hy ▸ List.getElem_mem hk2
   refine st ?_
   refine RunC.draw 10 fol_ (.cons .here rfl (.cons .here rfl .nil)) ?_
   refine va 0 rfl (Val.fieldAddr rfl fld_41_2) rfl rfl rfl (.cons .here rfl (.cons .here rfl .nil)) rfl ?_
   refine va 1 rfl (Val.load_one rfl (.tail _ (.head _)) ty_38 rfl) rfl rfl rfl (.cons .here rfl (.cons .here rfl .nil)) rfl ?_
   refine va 2 rfl (Val.pure rfl) rfl rfl rfl (.cons .here rfl (.cons .here rfl .nil)) rfl ?_
   refine va 3 rfl (Val.indexAddr_slp rfl rfl sl_38 (by omega) (by omega) (Sl.ptrM hR.shares hk)) rfl rfl rfl (.cons .here rfl (.cons .here rfl .nil)) rfl ?_
   refine va 4 rfl (Val.load_gen rfl (fun w hm => Sl.loadM1 hR.shares (by decide) hm (by simp) ty_31 hk (v := x.v) (by simp [SA.cell, hx]))) rfl rfl rfl (.cons .here rfl (.cons .here rfl .nil)) rfl ?_
   refine va 5 rfl (Val.fieldAddr rfl fld_41_2) rfl rfl rfl (.cons .here rfl (.cons .here rfl .nil)) rfl ?_
   refine va 6 rfl (Val.load_one rfl (.head _) ty_38 rfl) rfl rfl rfl (.cons .here rfl (.cons .here rfl .nil)) rfl ?_
   refine va 7 rfl (Val.pure rfl) rfl rfl rfl (.cons .here rfl (.cons .here rfl .nil)) rfl ?_
   refine va 8 rfl (Val.indexAddr_slp rfl rfl sl_38 (by omega) (by omega) (Sl.ptrM hQ.shares hk2)) rfl rfl rfl (.cons .here rfl (.cons .here rfl .nil)) rfl ?_
   refine va 9 rfl (Val.load_gen rfl (fun w hm => Sl.loadM1 hQ.shares (by decide) hm (by simp) ty_31 hk2 (v := y.v) (by simp [SA.cell, hy]))) rfl rfl rfl (.cons .here rfl (.cons .here rfl .nil)) rfl ?_
   refine RunA.toB (by kernel_rfl) ?_
   refine RunB.one (i := 10) (by kernel_rfl) ?_
   refine RunI.callP rfl (isCall_func rfl ent_51) rfl rfl rfl (fun w hm => (rsameInts_calls x y w ((hR.rows x hxm).mono0 (by decide) hm) ((hQ.rows y hym).mono0 (by decide) hm) (by have := s4 x hxm; omega) (by have := u4 y hym; omega))) (RunK.toB ?_)
   refine RunB.one (i := 11) (by kernel_rfl) ?_
   refine RunI.val rfl (Val.pure rfl) rfl rfl rfl (RunK.toB ?_)
   refine RunB.done (by kernel_rfl) ?_
   refine st ?_
   refine cn rfl ?_ ?_
   ·intro c4'
    refine st ?_
    refine RunC.ret ?_
    refine RunE.block_ret ?_
    refine RunE.pass_ret ?_
    refine RunE.pass_ret ?_
    refine RunE.block_ret ?_
    refine RunE.pass_ret ?_
    exact RunE.retP (.r1 rfl (.tmp rfl)) (by first | (rw [ry_same f1 f2 f3]; rfl) | (rw [ry_ne3 (show r.pl.reports ≠ q.pl.reports from ne_at hk hk2 hx hy (by rintro rfl; simp_all))]; done) | (rw [ry_ne2 (show r.pl.shares ≠ q.pl.shares from mapT_ne hk hk2 hx hy (by simp_all))]; done) | (rw [ry_ne1 (show r.pl.terms ≠ q.pl.terms from ne_at hk hk2 hx hy (by rintro rfl; simp_all))]; done) | (refine congrArg Value.bool (decide_eq_false fun e => ?_).symm; have d1 : r.terms.l.length = q.terms.l.length := congrArg (fun z : Ry => z.terms.length) e; have d2 : r.pl.shares.length = q.pl.shares.length := congrArg (fun z : Ry => z.shares.length) e; have d3 : r.reports.l.length = q.reports.l.length := congrArg (fun z : Ry => z.reports.length) e; simp only [RyA.pl, List.length_map] at d2; simp_all; done))
   intro c4'
   refine st ?_
   refine lv (Val.add rfl rfl (IntWalk.i64_in _ ⟨by omega, by omega⟩)) ?_
   exact RunE.round (by omega) (mapT_step hk hk2 hx hy kI (by simp_all)) rfl (Sub.consE (t := 6) rfl rfl (Sub.cons (t := 2) rfl (Sub.cons (t := 3) rfl (Sub.nil _)))) (.cons .here rfl (.cons .here rfl .nil))
  intro c3'
  obtain rfl : k = r.shares.l.length := by omega
  have f2 : r.pl.shares = q.pl.shares := eq_end (show (r.shares.l.map (·.l)).length = (q.shares.l.map (·.l)).length by simp only [List.length_map]; omega) (by show List.take (r.shares.l.map (·.l)).length (r.shares.l.map (·.l)) = List.take (r.shares.l.map (·.l)).length (q.shares.l.map (·.l)); rw [List.length_map]; exact kI)
  clear kI kN
  refine RunC.exit ?_
  refine RunE.pass_exit ?_
  refine RunE.pass_exit ?_
  refine RunE.block_here ?_
  refine st ?_
  refine RunC.loopK (r.reports.l.length) (fun k q => (7, .int .i64 (k : Int)) :: q) (fun _ => _) (fun _ => []) (fun k => r.reports.l.take k = q.reports.l.take k) (by simp) rfl (Sub.consE (t := 7) rfl rfl (Sub.cons (t := 2) rfl (Sub.cons (t := 3) rfl (Sub.nil _)))) (.cons .here rfl (.cons .here rfl .nil)) ?_
  intro k kN kI
  refine st ?_
  refine lv (Val.fieldAddr rfl fld_41_3) ?_
  refine lv (Val.load_one rfl (.tail _ (.head _)) ty_39 rfl) ?_
  refine lv (Val.len_sl rfl sl_39) ?_
  refine cn rfl ?_ ?_
  ·intro c5'
   have hk : k < r.reports.l.length := by omega
   have hk2 : k < q.reports.l.length := by omega
   obtain ⟨x, hx⟩ : ∃ x, r.reports.l[k] = x := ⟨_, rfl⟩
   obtain ⟨y, hy⟩ : ∃ y, q.reports.l[k] = y := ⟨_, rfl⟩
   refine st ?_
   refine RunC.draw 10 fol_ (.cons .here rfl (.cons .here rfl .nil)) ?_
   refine va 0 rfl (Val.fieldAddr rfl fld_41_3) rfl rfl rfl (.cons .here rfl (.cons .here rfl .nil)) rfl ?_
   refine va 1 rfl (Val.load_one rfl (.tail _ (.head _)) ty_39 rfl) rfl rfl rfl (.cons .here rfl (.cons .here rfl .nil)) rfl ?_
   refine va 2 rfl (Val.pure rfl) rfl rfl rfl (.cons .here rfl (.cons .here rfl .nil)) rfl ?_
   refine va 3 rfl (Val.indexAddr_slp rfl rfl sl_39 (by omega) (by omega) (Sl.ptrM hR.reports hk)) rfl rfl rfl (.cons .here rfl (.cons .here rfl .nil)) rfl ?_
   refine va 4 rfl (Val.load_gen rfl (fun w hm => Sl.loadX hR.reports (by decide) hm (by simp) ty_76 hk hx)) rfl rfl rfl (.cons .here rfl (.cons .here rfl .nil)) rfl ?_
   refine va 5 rfl (Val.fieldAddr rfl fld_41_3) rfl rfl rfl (.cons .here rfl (.cons .here rfl .nil)) rfl ?_
   refine va 6 rfl (Val.load_one rfl (.head _) ty_39 rfl) rfl rfl rfl (.cons .here rfl (.cons .here rfl .nil)) rfl ?_
   refine va 7 rfl (Val.pure rfl) rfl rfl rfl (.cons .here rfl (.cons .here rfl .nil)) rfl ?_
   refine va 8 rfl (Val.indexAddr_slp rfl rfl sl_39 (by omega) (by omega) (Sl.ptrM hQ.reports hk2)) rfl rfl rfl (.cons .here rfl (.cons .here rfl .nil)) rfl ?_
   refine va 9 rfl (Val.load_gen rfl (fun w hm => Sl.loadX hQ.reports (by decide) hm (by simp) ty_76 hk2 hy)) rfl rfl rfl (.cons .here rfl (.cons .here rfl .nil)) rfl ?_
   refine RunA.toB (by kernel_rfl) ?_
   refine RunB.one (i := 10) (by kernel_rfl) ?_
   refine RunI.val rfl (Val.neq_flat rfl rfl eqB_76 (kl_76 _ _ _ _ _ _ _ _ )) rfl rfl rfl (RunK.toB ?_)
   refine RunB.done (by kernel_rfl) ?_
   refine st ?_
   refine cn rfl ?_ ?_
   ·intro c6'
    refine st ?_
    refine RunC.ret ?_
    refine RunE.block_ret ?_
    refine RunE.pass_ret ?_
    refine RunE.pass_ret ?_
    refine RunE.block_ret ?_
    refine RunE.pass_ret ?_
    exact RunE.retP (.r1 rfl (.tmp rfl)) (by first | (rw [ry_same f1 f2 f3]; rfl) | (rw [ry_ne3 (show r.pl.reports ≠ q.pl.reports from ne_at hk hk2 hx hy (by rintro rfl; simp_all))]; done) | (rw [ry_ne2 (show r.pl.shares ≠ q.pl.shares from mapT_ne hk hk2 hx hy (by simp_all))]; done) | (rw [ry_ne1 (show r.pl.terms ≠ q.pl.terms from ne_at hk hk2 hx hy (by rintro rfl; simp_all))]; done) | (refine congrArg Value.bool (decide_eq_false fun e => ?_).symm; have d1 : r.terms.l.length = q.terms.l.length := congrArg (fun z : Ry => z.terms.length) e; have d2 : r.pl.shares.length = q.pl.shares.length := congrArg (fun z : Ry => z.shares.length) e; have d3 : r.reports.l.length = q.reports.l.length := congrArg (fun z : Ry => z.reports.length) e; simp only [RyA.pl, List.length_map] at d2; simp_all; done))
   intro c6'
   refine st ?_
   refine lv (Val.add rfl rfl (IntWalk.i64_in _ ⟨by omega, by omega⟩)) ?_
   exact RunE.round (by omega) (eqT_step hk hk2 hx hy kI (by cases x; cases y; simp_all)) rfl (Sub.consE (t := 7) rfl rfl (Sub.cons (t := 2) rfl (Sub.cons (t := 3) rfl (Sub.nil _)))) (.cons .here rfl (.cons .here rfl .nil))
  intro c5'
  obtain rfl : k = r.reports.l.length := by omega
  have f3 : r.pl.reports = q.pl.reports := eq_end e3 kI
  refine RunC.exit ?_
  refine RunE.pass_exit ?_
  refine RunE.pass_exit ?_
  refine RunE.block_here ?_
  refine st ?_
  refine lv (Val.fieldAddr rfl fld_41_1) ?_
  refine lv (Val.load_one rfl (.tail _ (.head _)) ty_31 rfl) ?_
  refine lv (Val.fieldAddr rfl fld_41_1) ?_
  refine lv (Val.load_one rfl (.head _) ty_31 rfl) ?_
  refine RunL.callP (isCall_func rfl ent_51) rfl rfl rfl (fun w hm => (rsameInts_calls r.prices q.prices w (hR.prices.mono0 (by decide) hm) (hQ.prices.mono0 (by decide) hm) (by omega) (by omega))) ?_
  refine st ?_
  refine RunL.andPart (dj := 93) (dp := 99) 6 rfl (fun g93 => by
    have g93' := g93
    try simp only [nH] at g93'
    refine lv (Val.fieldAddr rfl fld_41_4) ?_
    refine lv (Val.load_one rfl (.tail _ (.head _)) ty_31 rfl) ?_
    refine lv (Val.fieldAddr rfl fld_41_4) ?_
    refine lv (Val.load_one rfl (.head _) ty_31 rfl) ?_
    refine RunL.callP (isCall_func rfl ent_51) rfl rfl rfl (fun w hm => (rsameInts_calls r.paid q.paid w (hR.paid.mono0 (by decide) hm) (hQ.paid.mono0 (by decide) hm) (by omega) (by omega))) ?_
    refine sv ?_
    exact RunL.segEnd (Sub.cons rfl (Sub.skip rfl (Sub.skip rfl (Sub.skip rfl (Sub.skip rfl (Sub.skip rfl (Sub.skip rfl (Sub.same rfl (by rw [g93]) (Sub.refl _))))))))) (List.Sublist.refl _)
  ) (fun g93 => by
    have g93' := g93
    try simp only [nH] at g93'
    iterate 5 refine RunL.no rfl rfl rfl ?_
    refine sv ?_
    exact RunL.segEnd (Sub.cons rfl (Sub.skip rfl (Sub.skip rfl (Sub.skip rfl (Sub.skip rfl (Sub.skip rfl (Sub.skip rfl (Sub.same rfl (by rw [g93]) (Sub.refl _))))))))) (List.Sublist.refl _)
  ) ?_
  refine st ?_
  refine RunC.ret ?_
  exact RunE.retP (.r1 rfl (.tmp rfl)) (by first | (rw [ry_same f1 f2 f3]; rfl) | (rw [ry_ne3 (show r.pl.reports ≠ q.pl.reports from ne_at hk hk2 hx hy (by rintro rfl; simp_all))]; done) | (rw [ry_ne2 (show r.pl.shares ≠ q.pl.shares from mapT_ne hk hk2 hx hy (by simp_all))]; done) | (rw [ry_ne1 (show r.pl.terms ≠ q.pl.terms from ne_at hk hk2 hx hy (by rintro rfl; simp_all))]; done) | (refine congrArg Value.bool (decide_eq_false fun e => ?_).symm; have d1 : r.terms.l.length = q.terms.l.length := congrArg (fun z : Ry => z.terms.length) e; have d2 : r.pl.shares.length = q.pl.shares.length := congrArg (fun z : Ry => z.shares.length) e; have d3 : r.reports.l.length = q.reports.l.length := congrArg (fun z : Ry => z.reports.length) e; simp only [RyA.pl, List.length_map] at d2; simp_all; done))
end Go.Proofs.YtleamcmljcdapabGreatDoor
namespace Go.Bk
open Go Go.Eng Go.RowKit
/-! ### The examples -/
def exT : Tr := ⟨360, [⟨30, 40⟩, ⟨20, 20⟩, ⟨60, 70⟩], [[⟨0, 0⟩, ⟨15, 20⟩, ⟨45, 50⟩], [⟨15, 20⟩, ⟨0, 0⟩, ⟨30, 35⟩], [⟨45, 50⟩, ⟨30, 35⟩, ⟨0, 0⟩]], [⟨10, 15⟩, ⟨20, 20⟩, ⟨5, 10⟩], [⟨420, 480⟩, ⟨380, 600⟩, ⟨500, 540⟩]⟩
def exC : Cb := ⟨4, [0, 1, 2], 1, [⟨0, 0, 0, 0⟩, ⟨0, 1, 1, 0⟩, ⟨1, 0, 0, 0⟩, ⟨1, 1, 1, 0⟩, ⟨2, 0, 0, 1⟩]⟩
def exR : Ry := ⟨[⟨20, 3, 30⟩, ⟨25, 12, 25⟩], [99], [[334, 333, 333]], [⟨0, 0, 0, 5⟩, ⟨1, 0, 4, 7⟩], [0, 0]⟩
def exP : Ps := ⟨[⟨⟨100, 101⟩, ⟨500, 505⟩, 0⟩], ⟨3, 5⟩, ⟨10, 20⟩⟩
theorem exT_ok : tourX exT = true := by decide
theorem exC_ok : cabX exC = true := by decide
theorem exR_ok : royalX exR = true := by decide
theorem exP_ok : printsX exP = true := by decide
def dig (u : Nat) : Str := if u < 10 then [UInt8.ofNat (48 + u)] else if u < 100 then [UInt8.ofNat (48 + u / 10), UInt8.ofNat (48 + u % 10)] else [UInt8.ofNat (48 + u / 100), UInt8.ofNat (48 + u / 10 % 10), UInt8.ofNat (48 + u % 10)]
theorem dig_dec {u : Nat} (h : u < 1000) : Lib.decDigits u = dig u := by
  unfold dig
  split
  · rw [Lib.decDigits, dif_pos (by assumption)]
  · rename_i h1
    rw [Lib.decDigits, dif_neg h1]
    split
    · rw [Lib.decDigits, dif_pos (by omega)]
      rfl
    · rw [Lib.decDigits, dif_neg (by omega), Lib.decDigits, dif_pos (by omega)]
      have e : u / 10 / 10 = u / 100 := by omega
      rw [e]
      rfl
theorem itoa_dig {n : Int} (h : 0 ≤ n) (h2 : n < 1000) : Lib.itoa n = dig n.toNat := by
  unfold Lib.itoa
  rw [if_neg (by omega), dig_dec (by omega)]
def exTS : Str := [116, 111, 117, 114, 32, 51, 54, 48, 10, 102, 114, 111, 109, 32, 51, 48, 46, 46, 52, 48, 32, 50, 48, 46, 46, 50, 48, 32, 54, 48, 46, 46, 55, 48, 10, 119, 97, 121, 115, 32, 48, 46, 46, 48, 32, 49, 53, 46, 46, 50, 48, 32, 52, 53, 46, 46, 53, 48, 10, 119, 97, 121, 115, 32, 49, 53, 46, 46, 50, 48, 32, 48, 46, 46, 48, 32, 51, 48, 46, 46, 51, 53, 10, 119, 97, 121, 115, 32, 52, 53, 46, 46, 53, 48, 32, 51, 48, 46, 46, 51, 53, 32, 48, 46, 46, 48, 10, 115, 116, 97, 121, 32, 49, 48, 46, 46, 49, 53, 32, 50, 48, 46, 46, 50, 48, 32, 53, 46, 46, 49, 48, 10, 108, 105, 103, 104, 116, 32, 52, 50, 48, 46, 46, 52, 56, 48, 32, 51, 56, 48, 46, 46, 54, 48, 48, 32, 53, 48, 48, 46, 46, 53, 52, 48, 10]
def exCS : Str := [99, 97, 98, 105, 110, 101, 116, 32, 52, 32, 49, 10, 104, 111, 109, 101, 115, 32, 48, 32, 49, 32, 50, 10, 116, 97, 107, 101, 32, 48, 32, 48, 10, 116, 97, 107, 101, 32, 49, 32, 49, 10, 98, 97, 99, 107, 32, 48, 32, 48, 10, 98, 97, 99, 107, 32, 49, 32, 49, 10, 108, 111, 111, 107, 32, 49, 32, 48, 10]
def exRS : Str := [114, 111, 121, 97, 108, 10, 97, 103, 101, 110, 116, 32, 50, 48, 32, 51, 32, 51, 48, 32, 48, 10, 97, 103, 101, 110, 116, 32, 50, 53, 32, 49, 50, 32, 50, 53, 32, 48, 10, 107, 105, 110, 100, 32, 57, 57, 32, 51, 51, 52, 32, 51, 51, 51, 32, 51, 51, 51, 10, 114, 101, 112, 111, 114, 116, 32, 48, 32, 48, 32, 48, 32, 53, 10, 114, 101, 112, 111, 114, 116, 32, 49, 32, 48, 32, 52, 32, 55, 10]
def exPS : Str := [80, 1, 0, 100, 0, 1, 1, 244, 0, 5, 0, 0, 0, 3, 0, 2, 0, 10, 0, 10, 29, 39]
set_option maxRecDepth 10000 in
theorem exT_text : tourS exT = exTS := by
  simp (config := { decide := true }) only [tourS, exT, rowS, lineS, spS, List.map_cons, List.map_nil, itoa_dig]
  try rfl
theorem exC_text : cabS exC = exCS := by
  simp (config := { decide := true }) only [cabS, exC, loanS, lineS, List.map_cons, List.map_nil, itoa_dig, if_true, if_false]
theorem exR_text : royalS exR = exRS := by
  simp (config := { decide := true }) only [royalS, exR, agentS, kindS, reportS, lineS, List.map_cons, List.map_nil, List.zip_cons_cons, List.zip_nil_right, itoa_dig]
theorem exP_bytes : psS exP = exPS := by decide
theorem ndec {p : Prop} [Decidable p] (h : p) : (!decide p) = false := by simp [h]
set_option maxRecDepth 10000 in
theorem exT_len : exTS.length = 165 := rfl
set_option maxRecDepth 10000 in
theorem exC_len : exCS.length = 69 := rfl
set_option maxRecDepth 10000 in
theorem exR_len : exRS.length = 89 := rfl
theorem exT_read : readX tourStep zeroT tourX tourS exTS = .ok exT := readX_ok parse_tour exT_ok exT_text (by rw [exT_len]; decide)
theorem exC_read : readX cabStep zeroC cabX cabS exCS = .ok exC := readX_ok parse_cab exC_ok exC_text (by rw [exC_len]; decide)
theorem exR_read : readX royStep zeroR royalX royalS exRS = .ok exR := readX_ok parse_roy exR_ok exR_text (by rw [exR_len]; decide)
theorem exP_read : readPs exPS = .ok exP := by rw [← exP_bytes]; exact readPs_ok exP_ok
end Go.Bk
namespace Go.Proofs.YtleamcmljcdapabGreatDoor
open Go Go.Eng Go.Bk Go.RowKit

theorem rsameBytes_calls (s u : SA UInt8) (W : World) (hS : s.ok byC 1 W) (hU : u.ok byC 1 W) : Calls Tryz.prog 20 #[s.v, u.v] W (Pure (.bool (decide (s.l = u.l))) W) := by
  refine calls_start Tryz.func20 rfl rfl ?_
  refine st ?_
  refine lv (Val.bytesStr rfl sls_22 und_5 und_9 (fun w hm => hS.mono0 (by decide) hm)) ?_
  refine lv (Val.bytesStr rfl sls_22 und_5 und_9 (fun w hm => hU.mono0 (by decide) hm)) ?_
  refine lv (Val.eqlStr rfl rfl) ?_
  refine RunC.ret ?_
  exact RunE.retP (.r1 rfl (.tmp rfl)) (by first | rfl | simp)
theorem lspan_calls (a b : Int) (W : World) : Calls Tryz.prog 24 #[.int .i64 a, .int .i64 b] W (Pure (.agg #[.int .i64 a, .int .i64 b]) W) := by
  refine calls_start Tryz.func24 rfl rfl ?_
  refine st ?_
  refine RunL.new (New.alloc zero_46) rfl rfl rfl (fun b4 => ?_)
  refine st ?_
  refine lv (Val.build (parts := [(0, .tmp 5), (1, .tmp 6)]) rfl zero_46 places_46 rfl) ?_
  refine RunL.sto (Sto.store rfl rfl .here ty_46 rfl rfl) rfl rfl ?_
  refine st ?_
  refine RunC.ret ?_
  exact RunE.retP (.r1 rfl (.agg rfl (.head _) ty_46 rfl)) (by first | rfl | simp)
end Go.Proofs.YtleamcmljcdapabGreatDoor
namespace Go.Proofs.YtleamcmljcdapabGreatDoor
open Go Go.Eng
theorem ent_24 : Enters Tryz.prog 24 := enters_of Tryz.func24 (by kernel_rfl) rfl
theorem places_27 : placesB Tryz.prog 27 = some [(0, 1), (1, 1), (2, 1), (3, 1), (4, 1)] := by kernel_rfl
theorem places_34 : placesB Tryz.prog 34 = some [(0, 1), (1, 1), (2, 1), (3, 1)] := by kernel_rfl
theorem places_41 : placesB Tryz.prog 41 = some [(0, 1), (1, 1), (2, 1), (3, 1), (4, 1)] := by kernel_rfl
end Go.Proofs.YtleamcmljcdapabGreatDoor
namespace Go.Proofs.YtleamcmljcdapabGreatDoor
open Go Go.Eng Go.Bk Go.RowKit

abbrev cO (cs : List Value) (T : TypeId) : Obj := .cells cs.toArray T (0, 0)
theorem cO_ok {α : Type} {w : World} {b c : Nat} {T : TypeId} {f : α → List Value} {sz : Nat} (l : List α) (h : w.heap[b]? = some (cO (l.map f).flatten T)) (hf : ∀ x, (f x).length = sz) : (⟨l, some ⟨b, 0, none⟩, b, 0, c⟩ : SA α).ok f sz w :=
  Sl.rowsR (xs := l.map f) (t := []) (by rw [List.append_nil]; exact h) (fun x hx => by obtain ⟨y, _, rfl⟩ := List.mem_map.1 hx; exact hf y)
/-- A slice that is just a block. -/
abbrev atB {α : Type} (l : List α) (b : Nat) : SA α := ⟨l, some ⟨b, 0, none⟩, b, 0, l.length⟩
structure ExT where
  a : Nat
  b : Nat
  c : Nat
  d : Nat
  e : Nat
  f : Nat
  g : Nat
def exTR (z : ExT) : List (SA Sp) := [atB [⟨0, 0⟩, ⟨15, 20⟩, ⟨45, 50⟩] z.b, atB [⟨15, 20⟩, ⟨0, 0⟩, ⟨30, 35⟩] z.c, atB [⟨45, 50⟩, ⟨30, 35⟩, ⟨0, 0⟩] z.d]
def exTA (z : ExT) : TrA := ⟨360, atB exT.fr z.a, atB (exTR z) z.e, atB exT.stay z.f, atB exT.light z.g⟩
theorem exTA_pl (z : ExT) : (exTA z).pl = exT := rfl
def exTB (z : ExT) : Blks := [(z.a, cO (exT.fr.map Sp.cells).flatten 46), (z.b, cO (([⟨0, 0⟩, ⟨15, 20⟩, ⟨45, 50⟩] : List Sp).map Sp.cells).flatten 46), (z.c, cO (([⟨15, 20⟩, ⟨0, 0⟩, ⟨30, 35⟩] : List Sp).map Sp.cells).flatten 46), (z.d, cO (([⟨45, 50⟩, ⟨30, 35⟩, ⟨0, 0⟩] : List Sp).map Sp.cells).flatten 46), (z.e, cO ((exTR z).map SA.cell).flatten 24), (z.f, cO (exT.stay.map Sp.cells).flatten 46), (z.g, cO (exT.light.map Sp.cells).flatten 46)]
theorem exTA_ok {z : ExT} {w W : World} {tl : Blks} (hm : Mem W [] (exTB z ++ tl) w) : TrOk w (exTA z) := by
  have h : ∀ b o, (b, o) ∈ exTB z → w.heap[b]? = some o := fun b o hb => hm.at (List.mem_append_right _ (List.mem_append_left _ hb))
  refine ⟨cO_ok _ (h _ _ (.head _)) (fun _ => rfl), cO_ok _ (h _ _ (.tail _ (.tail _ (.tail _ (.tail _ (.head _)))))) (fun _ => rfl), fun x hx => ?_, cO_ok _ (h _ _ (.tail _ (.tail _ (.tail _ (.tail _ (.tail _ (.head _))))))) (fun _ => rfl), cO_ok _ (h _ _ (.tail _ (.tail _ (.tail _ (.tail _ (.tail _ (.tail _ (.head _)))))))) (fun _ => rfl), fun e => by cases e⟩
  simp only [exTA, exTR, List.mem_cons, List.not_mem_nil, or_false] at hx
  rcases hx with rfl | rfl | rfl
  · exact cO_ok _ (h _ _ (.tail _ (.head _))) (fun _ => rfl)
  · exact cO_ok _ (h _ _ (.tail _ (.tail _ (.head _)))) (fun _ => rfl)
  · exact cO_ok _ (h _ _ (.tail _ (.tail _ (.tail _ (.head _))))) (fun _ => rfl)
theorem exTA_sm (z : ExT) : TrSm (exTA z) := ⟨by show (3 : Nat) ≤ _; decide, by show (3 : Nat) ≤ _; decide, fun x hx => by
  simp only [exTA, exTR, List.mem_cons, List.not_mem_nil, or_false] at hx
  rcases hx with rfl | rfl | rfl <;> (show (3 : Nat) ≤ _; decide), by show (3 : Nat) ≤ _; decide, by show (3 : Nat) ≤ _; decide⟩
theorem tour_calls (W : World) : Calls Tryz.prog 28 #[] W (News (fun z : ExT => (exTA z).v) exTB W) := by
  refine calls_start Tryz.func28 rfl rfl ?_
  refine st ?_
  refine RunL.new (New.alloc zero_27) rfl rfl rfl (fun b0 => ?_)
  refine st ?_
  iterate 4 refine RunL.callP (isCall_func rfl ent_24) rfl rfl rfl (fun w hm => lspan_calls _ _ w) ?_
  refine RunL.new (New.alloc zero_46) rfl rfl rfl (fun b1 => ?_)
  refine RunL.new (New.alloc zero_46) rfl rfl rfl (fun b2 => ?_)
  refine RunL.new (New.alloc zero_46) rfl rfl rfl (fun b3 => ?_)
  refine RunL.new (New.alloc zero_46) rfl rfl rfl (fun b4 => ?_)
  refine RunL.sto (Sto.store rfl rfl (.there (.there (.there .here))) ty_46 rfl rfl) rfl rfl ?_
  refine RunL.sto (Sto.store rfl rfl (.there (.there .here)) ty_46 rfl rfl) rfl rfl ?_
  refine RunL.sto (Sto.store rfl rfl (.there .here) ty_46 rfl rfl) rfl rfl ?_
  refine RunL.sto (Sto.store rfl rfl .here ty_46 rfl rfl) rfl rfl ?_
  refine st ?_
  refine RunC.freeN (O := Nat) [⟨9, [], [], fun _ => .agg #[.int .i64 30, .int .i64 40], fun _ => []⟩, ⟨10, [0], [], fun _ => .agg #[.int .i64 20, .int .i64 20], fun _ => []⟩, ⟨11, [0, 1], [], fun _ => .agg #[.int .i64 60, .int .i64 70], fun _ => []⟩, ⟨12, [0, 1, 2], [3], fun l => match l with | [b12] => .slice (some ⟨b12, 0, none⟩) 3 3 | _ => undef, fun l => match l with | [b12] => [(b12, .cells [.int .i64 30, .int .i64 40, .int .i64 20, .int .i64 20, .int .i64 60, .int .i64 70].toArray 46 (0, 0))] | _ => []⟩, ⟨13, [], [], fun _ => .agg #[.int .i64 0, .int .i64 0], fun _ => []⟩, ⟨14, [], [], fun _ => .agg #[.int .i64 15, .int .i64 20], fun _ => []⟩, ⟨15, [], [], fun _ => .agg #[.int .i64 45, .int .i64 50], fun _ => []⟩, ⟨16, [4, 5, 6], [7], fun l => match l with | [b16] => .slice (some ⟨b16, 0, none⟩) 3 3 | _ => undef, fun l => match l with | [b16] => [(b16, .cells [.int .i64 0, .int .i64 0, .int .i64 15, .int .i64 20, .int .i64 45, .int .i64 50].toArray 46 (0, 0))] | _ => []⟩, ⟨17, [], [], fun _ => .agg #[.int .i64 15, .int .i64 20], fun _ => []⟩, ⟨18, [], [], fun _ => .agg #[.int .i64 0, .int .i64 0], fun _ => []⟩, ⟨19, [], [], fun _ => .agg #[.int .i64 30, .int .i64 35], fun _ => []⟩, ⟨20, [8, 9, 10], [11], fun l => match l with | [b20] => .slice (some ⟨b20, 0, none⟩) 3 3 | _ => undef, fun l => match l with | [b20] => [(b20, .cells [.int .i64 15, .int .i64 20, .int .i64 0, .int .i64 0, .int .i64 30, .int .i64 35].toArray 46 (0, 0))] | _ => []⟩, ⟨21, [], [], fun _ => .agg #[.int .i64 45, .int .i64 50], fun _ => []⟩, ⟨22, [], [], fun _ => .agg #[.int .i64 30, .int .i64 35], fun _ => []⟩, ⟨23, [], [], fun _ => .agg #[.int .i64 0, .int .i64 0], fun _ => []⟩, ⟨24, [12, 13, 14], [15], fun l => match l with | [b24] => .slice (some ⟨b24, 0, none⟩) 3 3 | _ => undef, fun l => match l with | [b24] => [(b24, .cells [.int .i64 45, .int .i64 50, .int .i64 30, .int .i64 35, .int .i64 0, .int .i64 0].toArray 46 (0, 0))] | _ => []⟩, ⟨25, [4, 5, 6, 7, 8, 9, 10, 11, 12, 13, 14, 15], [7, 11, 15, 16], fun l => match l with | [b16, b20, b24, b25] => .slice (some ⟨b25, 0, none⟩) 3 3 | _ => undef, fun l => match l with | [b16, b20, b24, b25] => [(b25, .cells [.slice (some ⟨b16, 0, none⟩) 3 3, .slice (some ⟨b20, 0, none⟩) 3 3, .slice (some ⟨b24, 0, none⟩) 3 3].toArray 24 (0, 0))] | _ => []⟩, ⟨26, [0, 1, 2], [], fun _ => .agg #[.int .i64 10, .int .i64 15], fun _ => []⟩, ⟨27, [0, 1, 2, 17], [], fun _ => .agg #[.int .i64 20, .int .i64 20], fun _ => []⟩, ⟨28, [0, 1, 2, 17, 18], [], fun _ => .agg #[.int .i64 5, .int .i64 10], fun _ => []⟩, ⟨29, [0, 1, 2, 17, 18, 19], [20], fun l => match l with | [b29] => .slice (some ⟨b29, 0, none⟩) 3 3 | _ => undef, fun l => match l with | [b29] => [(b29, .cells [.int .i64 10, .int .i64 15, .int .i64 20, .int .i64 20, .int .i64 5, .int .i64 10].toArray 46 (0, 0))] | _ => []⟩, ⟨30, [0, 1, 2, 17, 18, 19], [], fun _ => .agg #[.int .i64 420, .int .i64 480], fun _ => []⟩, ⟨31, [0, 1, 2, 17, 18, 19, 21], [], fun _ => .agg #[.int .i64 380, .int .i64 600], fun _ => []⟩, ⟨32, [0, 1, 2, 17, 18, 19, 21, 22], [], fun _ => .agg #[.int .i64 500, .int .i64 540], fun _ => []⟩, ⟨33, [0, 1, 2, 17, 18, 19, 21, 22, 23], [24], fun l => match l with | [b33] => .slice (some ⟨b33, 0, none⟩) 3 3 | _ => undef, fun l => match l with | [b33] => [(b33, .cells [.int .i64 420, .int .i64 480, .int .i64 380, .int .i64 600, .int .i64 500, .int .i64 540].toArray 46 (0, 0))] | _ => []⟩] 27 25 2 fol_ (by kernel_rfl) (by rfl) rfl rfl rfl ?_ ?_
  ·refine AllOk.cons (fun x => ?_) ?_
   ·show OpOk _ _ _ _ _ (_) (_) 0 9 (fun _ => .agg #[.int .i64 30, .int .i64 40]) (fun _ => [])
    exact OpOk.callP rfl (isCall_func rfl ent_24) rfl rfl (fun w hm => lspan_calls _ _ w)
   refine AllOk.cons (fun x => ?_) ?_
   ·show OpOk _ _ _ _ _ ((9, .agg #[.int .i64 30, .int .i64 40]) :: _) (_) 1 10 (fun _ => .agg #[.int .i64 20, .int .i64 20]) (fun _ => [])
    exact OpOk.callP rfl (isCall_func rfl ent_24) rfl rfl (fun w hm => lspan_calls _ _ w)
   refine AllOk.cons (fun x => ?_) ?_
   ·show OpOk _ _ _ _ _ ((9, .agg #[.int .i64 30, .int .i64 40]) :: (10, .agg #[.int .i64 20, .int .i64 20]) :: _) (_) 2 11 (fun _ => .agg #[.int .i64 60, .int .i64 70]) (fun _ => [])
    exact OpOk.callP rfl (isCall_func rfl ent_24) rfl rfl (fun w hm => lspan_calls _ _ w)
   refine AllOk.cons (fun x => ?_) ?_
   ·show OpOk _ _ _ _ _ ((9, .agg #[.int .i64 30, .int .i64 40]) :: (10, .agg #[.int .i64 20, .int .i64 20]) :: (11, .agg #[.int .i64 60, .int .i64 70]) :: _) (_) 3 12 (fun b12 => .slice (some ⟨b12, 0, none⟩) 3 3) (fun b12 => [(b12, .cells [.int .i64 30, .int .i64 40, .int .i64 20, .int .i64 20, .int .i64 60, .int .i64 70].toArray 46 (0, 0))])
    exact OpOk.new rfl (New.buildSlice (parts := [(0, .tmp 9), (1, .tmp 10), (2, .tmp 11)]) rfl sl_24 zero_46 rfl rfl rfl rfl) rfl rfl
   refine AllOk.cons (fun x => ?_) ?_
   ·show OpOk _ _ _ _ _ (_) (_) 4 13 (fun _ => .agg #[.int .i64 0, .int .i64 0]) (fun _ => [])
    exact OpOk.val rfl (Val.load_agg rfl (.head _) ty_46 rfl) rfl rfl
   refine AllOk.cons (fun x => ?_) ?_
   ·show OpOk _ _ _ _ _ (_) (_) 5 14 (fun _ => .agg #[.int .i64 15, .int .i64 20]) (fun _ => [])
    exact OpOk.val rfl (Val.load_agg rfl (.tail _ (.tail _ (.tail _ (.head _)))) ty_46 rfl) rfl rfl
   refine AllOk.cons (fun x => ?_) ?_
   ·show OpOk _ _ _ _ _ (_) (_) 6 15 (fun _ => .agg #[.int .i64 45, .int .i64 50]) (fun _ => [])
    exact OpOk.val rfl (Val.load_agg rfl (.tail _ (.tail _ (.head _))) ty_46 rfl) rfl rfl
   refine AllOk.cons (fun x => ?_) ?_
   ·show OpOk _ _ _ _ _ ((13, .agg #[.int .i64 0, .int .i64 0]) :: (14, .agg #[.int .i64 15, .int .i64 20]) :: (15, .agg #[.int .i64 45, .int .i64 50]) :: _) (_) 7 16 (fun b16 => .slice (some ⟨b16, 0, none⟩) 3 3) (fun b16 => [(b16, .cells [.int .i64 0, .int .i64 0, .int .i64 15, .int .i64 20, .int .i64 45, .int .i64 50].toArray 46 (0, 0))])
    exact OpOk.new rfl (New.buildSlice (parts := [(0, .tmp 13), (1, .tmp 14), (2, .tmp 15)]) rfl sl_24 zero_46 rfl rfl rfl rfl) rfl rfl
   refine AllOk.cons (fun x => ?_) ?_
   ·show OpOk _ _ _ _ _ (_) (_) 8 17 (fun _ => .agg #[.int .i64 15, .int .i64 20]) (fun _ => [])
    exact OpOk.val rfl (Val.load_agg rfl (.tail _ (.tail _ (.tail _ (.head _)))) ty_46 rfl) rfl rfl
   refine AllOk.cons (fun x => ?_) ?_
   ·show OpOk _ _ _ _ _ (_) (_) 9 18 (fun _ => .agg #[.int .i64 0, .int .i64 0]) (fun _ => [])
    exact OpOk.val rfl (Val.load_agg rfl (.head _) ty_46 rfl) rfl rfl
   refine AllOk.cons (fun x => ?_) ?_
   ·show OpOk _ _ _ _ _ (_) (_) 10 19 (fun _ => .agg #[.int .i64 30, .int .i64 35]) (fun _ => [])
    exact OpOk.val rfl (Val.load_agg rfl (.tail _ (.head _)) ty_46 rfl) rfl rfl
   refine AllOk.cons (fun x => ?_) ?_
   ·show OpOk _ _ _ _ _ ((17, .agg #[.int .i64 15, .int .i64 20]) :: (18, .agg #[.int .i64 0, .int .i64 0]) :: (19, .agg #[.int .i64 30, .int .i64 35]) :: _) (_) 11 20 (fun b20 => .slice (some ⟨b20, 0, none⟩) 3 3) (fun b20 => [(b20, .cells [.int .i64 15, .int .i64 20, .int .i64 0, .int .i64 0, .int .i64 30, .int .i64 35].toArray 46 (0, 0))])
    exact OpOk.new rfl (New.buildSlice (parts := [(0, .tmp 17), (1, .tmp 18), (2, .tmp 19)]) rfl sl_24 zero_46 rfl rfl rfl rfl) rfl rfl
   refine AllOk.cons (fun x => ?_) ?_
   ·show OpOk _ _ _ _ _ (_) (_) 12 21 (fun _ => .agg #[.int .i64 45, .int .i64 50]) (fun _ => [])
    exact OpOk.val rfl (Val.load_agg rfl (.tail _ (.tail _ (.head _))) ty_46 rfl) rfl rfl
   refine AllOk.cons (fun x => ?_) ?_
   ·show OpOk _ _ _ _ _ (_) (_) 13 22 (fun _ => .agg #[.int .i64 30, .int .i64 35]) (fun _ => [])
    exact OpOk.val rfl (Val.load_agg rfl (.tail _ (.head _)) ty_46 rfl) rfl rfl
   refine AllOk.cons (fun x => ?_) ?_
   ·show OpOk _ _ _ _ _ (_) (_) 14 23 (fun _ => .agg #[.int .i64 0, .int .i64 0]) (fun _ => [])
    exact OpOk.val rfl (Val.load_agg rfl (.head _) ty_46 rfl) rfl rfl
   refine AllOk.cons (fun x => ?_) ?_
   ·show OpOk _ _ _ _ _ ((21, .agg #[.int .i64 45, .int .i64 50]) :: (22, .agg #[.int .i64 30, .int .i64 35]) :: (23, .agg #[.int .i64 0, .int .i64 0]) :: _) (_) 15 24 (fun b24 => .slice (some ⟨b24, 0, none⟩) 3 3) (fun b24 => [(b24, .cells [.int .i64 45, .int .i64 50, .int .i64 30, .int .i64 35, .int .i64 0, .int .i64 0].toArray 46 (0, 0))])
    exact OpOk.new rfl (New.buildSlice (parts := [(0, .tmp 21), (1, .tmp 22), (2, .tmp 23)]) rfl sl_24 zero_46 rfl rfl rfl rfl) rfl rfl
   refine AllOk.cons (fun x => ?_) ?_
   ·show OpOk _ _ _ _ _ ((13, .agg #[.int .i64 0, .int .i64 0]) :: (14, .agg #[.int .i64 15, .int .i64 20]) :: (15, .agg #[.int .i64 45, .int .i64 50]) :: (16, .slice (some ⟨(x 7), 0, none⟩) 3 3) :: (17, .agg #[.int .i64 15, .int .i64 20]) :: (18, .agg #[.int .i64 0, .int .i64 0]) :: (19, .agg #[.int .i64 30, .int .i64 35]) :: (20, .slice (some ⟨(x 11), 0, none⟩) 3 3) :: (21, .agg #[.int .i64 45, .int .i64 50]) :: (22, .agg #[.int .i64 30, .int .i64 35]) :: (23, .agg #[.int .i64 0, .int .i64 0]) :: (24, .slice (some ⟨(x 15), 0, none⟩) 3 3) :: _) (((x 7), .cells [.int .i64 0, .int .i64 0, .int .i64 15, .int .i64 20, .int .i64 45, .int .i64 50].toArray 46 (0, 0)) :: ((x 11), .cells [.int .i64 15, .int .i64 20, .int .i64 0, .int .i64 0, .int .i64 30, .int .i64 35].toArray 46 (0, 0)) :: ((x 15), .cells [.int .i64 45, .int .i64 50, .int .i64 30, .int .i64 35, .int .i64 0, .int .i64 0].toArray 46 (0, 0)) :: _) 16 25 (fun b25 => .slice (some ⟨b25, 0, none⟩) 3 3) (fun b25 => [(b25, .cells [.slice (some ⟨(x 7), 0, none⟩) 3 3, .slice (some ⟨(x 11), 0, none⟩) 3 3, .slice (some ⟨(x 15), 0, none⟩) 3 3].toArray 24 (0, 0))])
    generalize x 7 = b16
    generalize x 11 = b20
    generalize x 15 = b24
    exact OpOk.new rfl (New.buildSlice (parts := [(0, .tmp 16), (1, .tmp 20), (2, .tmp 24)]) rfl sl_25 zero_24 rfl rfl rfl rfl) rfl rfl
   refine AllOk.cons (fun x => ?_) ?_
   ·show OpOk _ _ _ _ _ ((9, .agg #[.int .i64 30, .int .i64 40]) :: (10, .agg #[.int .i64 20, .int .i64 20]) :: (11, .agg #[.int .i64 60, .int .i64 70]) :: _) (_) 17 26 (fun _ => .agg #[.int .i64 10, .int .i64 15]) (fun _ => [])
    exact OpOk.callP rfl (isCall_func rfl ent_24) rfl rfl (fun w hm => lspan_calls _ _ w)
   refine AllOk.cons (fun x => ?_) ?_
   ·show OpOk _ _ _ _ _ ((9, .agg #[.int .i64 30, .int .i64 40]) :: (10, .agg #[.int .i64 20, .int .i64 20]) :: (11, .agg #[.int .i64 60, .int .i64 70]) :: (26, .agg #[.int .i64 10, .int .i64 15]) :: _) (_) 18 27 (fun _ => .agg #[.int .i64 20, .int .i64 20]) (fun _ => [])
    exact OpOk.callP rfl (isCall_func rfl ent_24) rfl rfl (fun w hm => lspan_calls _ _ w)
   refine AllOk.cons (fun x => ?_) ?_
   ·show OpOk _ _ _ _ _ ((9, .agg #[.int .i64 30, .int .i64 40]) :: (10, .agg #[.int .i64 20, .int .i64 20]) :: (11, .agg #[.int .i64 60, .int .i64 70]) :: (26, .agg #[.int .i64 10, .int .i64 15]) :: (27, .agg #[.int .i64 20, .int .i64 20]) :: _) (_) 19 28 (fun _ => .agg #[.int .i64 5, .int .i64 10]) (fun _ => [])
    exact OpOk.callP rfl (isCall_func rfl ent_24) rfl rfl (fun w hm => lspan_calls _ _ w)
   refine AllOk.cons (fun x => ?_) ?_
   ·show OpOk _ _ _ _ _ ((9, .agg #[.int .i64 30, .int .i64 40]) :: (10, .agg #[.int .i64 20, .int .i64 20]) :: (11, .agg #[.int .i64 60, .int .i64 70]) :: (26, .agg #[.int .i64 10, .int .i64 15]) :: (27, .agg #[.int .i64 20, .int .i64 20]) :: (28, .agg #[.int .i64 5, .int .i64 10]) :: _) (_) 20 29 (fun b29 => .slice (some ⟨b29, 0, none⟩) 3 3) (fun b29 => [(b29, .cells [.int .i64 10, .int .i64 15, .int .i64 20, .int .i64 20, .int .i64 5, .int .i64 10].toArray 46 (0, 0))])
    exact OpOk.new rfl (New.buildSlice (parts := [(0, .tmp 26), (1, .tmp 27), (2, .tmp 28)]) rfl sl_24 zero_46 rfl rfl rfl rfl) rfl rfl
   refine AllOk.cons (fun x => ?_) ?_
   ·show OpOk _ _ _ _ _ ((9, .agg #[.int .i64 30, .int .i64 40]) :: (10, .agg #[.int .i64 20, .int .i64 20]) :: (11, .agg #[.int .i64 60, .int .i64 70]) :: (26, .agg #[.int .i64 10, .int .i64 15]) :: (27, .agg #[.int .i64 20, .int .i64 20]) :: (28, .agg #[.int .i64 5, .int .i64 10]) :: _) (_) 21 30 (fun _ => .agg #[.int .i64 420, .int .i64 480]) (fun _ => [])
    exact OpOk.callP rfl (isCall_func rfl ent_24) rfl rfl (fun w hm => lspan_calls _ _ w)
   refine AllOk.cons (fun x => ?_) ?_
   ·show OpOk _ _ _ _ _ ((9, .agg #[.int .i64 30, .int .i64 40]) :: (10, .agg #[.int .i64 20, .int .i64 20]) :: (11, .agg #[.int .i64 60, .int .i64 70]) :: (26, .agg #[.int .i64 10, .int .i64 15]) :: (27, .agg #[.int .i64 20, .int .i64 20]) :: (28, .agg #[.int .i64 5, .int .i64 10]) :: (30, .agg #[.int .i64 420, .int .i64 480]) :: _) (_) 22 31 (fun _ => .agg #[.int .i64 380, .int .i64 600]) (fun _ => [])
    exact OpOk.callP rfl (isCall_func rfl ent_24) rfl rfl (fun w hm => lspan_calls _ _ w)
   refine AllOk.cons (fun x => ?_) ?_
   ·show OpOk _ _ _ _ _ ((9, .agg #[.int .i64 30, .int .i64 40]) :: (10, .agg #[.int .i64 20, .int .i64 20]) :: (11, .agg #[.int .i64 60, .int .i64 70]) :: (26, .agg #[.int .i64 10, .int .i64 15]) :: (27, .agg #[.int .i64 20, .int .i64 20]) :: (28, .agg #[.int .i64 5, .int .i64 10]) :: (30, .agg #[.int .i64 420, .int .i64 480]) :: (31, .agg #[.int .i64 380, .int .i64 600]) :: _) (_) 23 32 (fun _ => .agg #[.int .i64 500, .int .i64 540]) (fun _ => [])
    exact OpOk.callP rfl (isCall_func rfl ent_24) rfl rfl (fun w hm => lspan_calls _ _ w)
   refine AllOk.cons (fun x => ?_) ?_
   ·show OpOk _ _ _ _ _ ((9, .agg #[.int .i64 30, .int .i64 40]) :: (10, .agg #[.int .i64 20, .int .i64 20]) :: (11, .agg #[.int .i64 60, .int .i64 70]) :: (26, .agg #[.int .i64 10, .int .i64 15]) :: (27, .agg #[.int .i64 20, .int .i64 20]) :: (28, .agg #[.int .i64 5, .int .i64 10]) :: (30, .agg #[.int .i64 420, .int .i64 480]) :: (31, .agg #[.int .i64 380, .int .i64 600]) :: (32, .agg #[.int .i64 500, .int .i64 540]) :: _) (_) 24 33 (fun b33 => .slice (some ⟨b33, 0, none⟩) 3 3) (fun b33 => [(b33, .cells [.int .i64 420, .int .i64 480, .int .i64 380, .int .i64 600, .int .i64 500, .int .i64 540].toArray 46 (0, 0))])
    exact OpOk.new rfl (New.buildSlice (parts := [(0, .tmp 30), (1, .tmp 31), (2, .tmp 32)]) rfl sl_24 zero_46 rfl rfl rfl rfl) rfl rfl
   exact AllOk.nil
  intro x
  show RunB _ _ _ _ 2 (listedK 25 27) ((9, .agg #[.int .i64 30, .int .i64 40]) :: (10, .agg #[.int .i64 20, .int .i64 20]) :: (11, .agg #[.int .i64 60, .int .i64 70]) :: (12, .slice (some ⟨(x 3), 0, none⟩) 3 3) :: (13, .agg #[.int .i64 0, .int .i64 0]) :: (14, .agg #[.int .i64 15, .int .i64 20]) :: (15, .agg #[.int .i64 45, .int .i64 50]) :: (16, .slice (some ⟨(x 7), 0, none⟩) 3 3) :: (17, .agg #[.int .i64 15, .int .i64 20]) :: (18, .agg #[.int .i64 0, .int .i64 0]) :: (19, .agg #[.int .i64 30, .int .i64 35]) :: (20, .slice (some ⟨(x 11), 0, none⟩) 3 3) :: (21, .agg #[.int .i64 45, .int .i64 50]) :: (22, .agg #[.int .i64 30, .int .i64 35]) :: (23, .agg #[.int .i64 0, .int .i64 0]) :: (24, .slice (some ⟨(x 15), 0, none⟩) 3 3) :: (25, .slice (some ⟨(x 16), 0, none⟩) 3 3) :: (26, .agg #[.int .i64 10, .int .i64 15]) :: (27, .agg #[.int .i64 20, .int .i64 20]) :: (28, .agg #[.int .i64 5, .int .i64 10]) :: (29, .slice (some ⟨(x 20), 0, none⟩) 3 3) :: (30, .agg #[.int .i64 420, .int .i64 480]) :: (31, .agg #[.int .i64 380, .int .i64 600]) :: (32, .agg #[.int .i64 500, .int .i64 540]) :: (33, .slice (some ⟨(x 24), 0, none⟩) 3 3) :: _) _ _ _ (((x 3), .cells [.int .i64 30, .int .i64 40, .int .i64 20, .int .i64 20, .int .i64 60, .int .i64 70].toArray 46 (0, 0)) :: ((x 7), .cells [.int .i64 0, .int .i64 0, .int .i64 15, .int .i64 20, .int .i64 45, .int .i64 50].toArray 46 (0, 0)) :: ((x 11), .cells [.int .i64 15, .int .i64 20, .int .i64 0, .int .i64 0, .int .i64 30, .int .i64 35].toArray 46 (0, 0)) :: ((x 15), .cells [.int .i64 45, .int .i64 50, .int .i64 30, .int .i64 35, .int .i64 0, .int .i64 0].toArray 46 (0, 0)) :: ((x 16), .cells [.slice (some ⟨(x 7), 0, none⟩) 3 3, .slice (some ⟨(x 11), 0, none⟩) 3 3, .slice (some ⟨(x 15), 0, none⟩) 3 3].toArray 24 (0, 0)) :: ((x 20), .cells [.int .i64 10, .int .i64 15, .int .i64 20, .int .i64 20, .int .i64 5, .int .i64 10].toArray 46 (0, 0)) :: ((x 24), .cells [.int .i64 420, .int .i64 480, .int .i64 380, .int .i64 600, .int .i64 500, .int .i64 540].toArray 46 (0, 0)) :: (b4, _) :: (b3, _) :: (b2, _) :: (b1, _) :: (b0, _) :: _)
  generalize x 3 = b12
  generalize x 7 = b16
  generalize x 11 = b20
  generalize x 15 = b24
  generalize x 16 = b25
  generalize x 20 = b29
  generalize x 24 = b33
  refine RunB.one (i := 25) (by kernel_rfl) ?_
  refine RunI.val rfl (Val.build (parts := [(0, .const (.int .i64 360)), (1, .tmp 12), (2, .tmp 25), (3, .tmp 29), (4, .tmp 33)]) rfl zero_27 places_27 rfl) rfl rfl rfl (RunK.toB ?_)
  refine RunB.one (i := 26) (by kernel_rfl) ?_
  refine RunI.sto rfl (Sto.store rfl rfl (.there (.there (.there (.there (.there (.there (.there (.there (.there (.there (.there .here))))))))))) ty_27 rfl rfl) rfl rfl (RunK.toB ?_)
  refine RunB.done (by kernel_rfl) ?_
  refine st ?_
  refine RunC.ret ?_
  exact RunE.ret (chg := []) (.r1 rfl (.agg rfl (.tail _ (.tail _ (.tail _ (.tail _ (.tail _ (.tail _ (.tail _ (.tail _ (.tail _ (.tail _ (.tail _ (.head _)))))))))))) ty_27 rfl)) (fun _ hm => ⟨⟨b12, b16, b20, b24, b25, b29, b33⟩, rfl, hm.pick (.cons .here rfl (.cons .here rfl (.cons .here rfl (.cons .here rfl (.cons .here rfl (.cons .here rfl (.cons .here rfl .nil)))))))⟩)
structure ExC where
  a : Nat
  b : Nat
def exCA (z : ExC) : CbA := ⟨4, atB exC.homes z.a, 1, atB exC.loans z.b⟩
def exCB (z : ExC) : Blks := [(z.a, cO (exC.homes.map intC).flatten 3), (z.b, cO (exC.loans.map Ln.cells).flatten 74)]
theorem exCA_pl (z : ExC) : (exCA z).pl = exC := rfl
theorem exCA_ok {z : ExC} {w W : World} {tl : Blks} (hm : Mem W [] (exCB z ++ tl) w) : CbOk w (exCA z) := by
  have h : ∀ b o, (b, o) ∈ exCB z → w.heap[b]? = some o := fun b o hb => hm.at (List.mem_append_right _ (List.mem_append_left _ hb))
  exact ⟨cO_ok _ (h _ _ (.head _)) (fun _ => rfl), cO_ok _ (h _ _ (.tail _ (.head _))) (fun _ => rfl)⟩
theorem exCA_s (z : ExC) : CbS (exCA z) := ⟨by show (3 : Nat) ≤ _; decide, by show (5 : Nat) ≤ _; decide⟩
theorem cabinet_calls (W : World) : Calls Tryz.prog 29 #[] W (News (fun z : ExC => (exCA z).v) exCB W) := by
  refine calls_start Tryz.func29 rfl rfl ?_
  refine st ?_
  refine RunL.new (New.alloc zero_34) rfl rfl rfl (fun b0 => ?_)
  refine st ?_
  refine RunL.new (New.buildSlice (parts := [(0, .const (.int .i64 0)), (1, .const (.int .i64 1)), (2, .const (.int .i64 2))]) rfl sl_31 zero_3 rfl rfl rfl rfl) rfl rfl rfl (fun b1 => ?_)
  refine lv (Val.build (parts := [(1, .const (.int .i64 0)), (2, .const (.int .i64 0))]) rfl zero_74 places_74 rfl) ?_
  refine lv (Val.build (parts := [(1, .const (.int .i64 1)), (2, .const (.int .i64 1))]) rfl zero_74 places_74 rfl) ?_
  refine lv (Val.build (parts := [(0, .const (.int .i64 1)), (1, .const (.int .i64 0)), (2, .const (.int .i64 0))]) rfl zero_74 places_74 rfl) ?_
  refine lv (Val.build (parts := [(0, .const (.int .i64 1)), (1, .const (.int .i64 1)), (2, .const (.int .i64 1))]) rfl zero_74 places_74 rfl) ?_
  refine lv (Val.build (parts := [(0, .const (.int .i64 2)), (1, .const (.int .i64 0)), (3, .const (.int .i64 1))]) rfl zero_74 places_74 rfl) ?_
  refine RunL.new (New.buildSlice (parts := [(0, .tmp 2), (1, .tmp 3), (2, .tmp 4), (3, .tmp 5), (4, .tmp 6)]) rfl sl_32 zero_74 rfl rfl rfl rfl) rfl rfl rfl (fun b7 => ?_)
  refine lv (Val.build (parts := [(0, .const (.int .i64 4)), (1, .tmp 1), (2, .const (.int .i64 1)), (3, .tmp 7)]) rfl zero_34 places_34 rfl) ?_
  refine RunL.sto (Sto.store rfl rfl (.there (.there .here)) ty_34 rfl rfl) rfl rfl ?_
  refine st ?_
  refine RunC.ret ?_
  exact RunE.ret (chg := []) (.r1 rfl (.agg rfl (.tail _ (.tail _ (.head _))) ty_34 rfl)) (fun _ hm => ⟨⟨b1, b7⟩, rfl, hm.pick (.cons (.there .here) rfl (.cons .here rfl .nil))⟩)
structure ExR where
  a : Nat
  b : Nat
  c : Nat
  d : Nat
  e : Nat
  f : Nat
def exRA (z : ExR) : RyA := ⟨atB exR.terms z.a, atB exR.prices z.b, atB [atB [334, 333, 333] z.c] z.d, atB exR.reports z.e, atB exR.paid z.f⟩
def exRB (z : ExR) : Blks := [(z.a, cO (exR.terms.map Tm.cells).flatten 124), (z.b, cO (exR.prices.map intC).flatten 3), (z.c, cO (([334, 333, 333] : List Int).map intC).flatten 3), (z.d, cO (([atB [334, 333, 333] z.c] : List (SA Int)).map SA.cell).flatten 31), (z.e, cO (exR.reports.map Rp.cells).flatten 76), (z.f, cO (exR.paid.map intC).flatten 3)]
theorem exRA_pl (z : ExR) : (exRA z).pl = exR := rfl
theorem exRA_ok {z : ExR} {w W : World} {tl : Blks} (hm : Mem W [] (exRB z ++ tl) w) : RyOk w (exRA z) := by
  have h : ∀ b o, (b, o) ∈ exRB z → w.heap[b]? = some o := fun b o hb => hm.at (List.mem_append_right _ (List.mem_append_left _ hb))
  refine ⟨cO_ok _ (h _ _ (.head _)) (fun _ => rfl), cO_ok _ (h _ _ (.tail _ (.head _))) (fun _ => rfl), cO_ok _ (h _ _ (.tail _ (.tail _ (.tail _ (.head _))))) (fun _ => rfl), fun x hx => ?_, cO_ok _ (h _ _ (.tail _ (.tail _ (.tail _ (.tail _ (.head _)))))) (fun _ => rfl), cO_ok _ (h _ _ (.tail _ (.tail _ (.tail _ (.tail _ (.tail _ (.head _))))))) (fun _ => rfl)⟩
  simp only [exRA, List.mem_cons, List.not_mem_nil, or_false] at hx
  subst hx
  exact cO_ok _ (h _ _ (.tail _ (.tail _ (.head _)))) (fun _ => rfl)
theorem exRA_sm (z : ExR) : RySm (exRA z) := ⟨by show (2 : Nat) ≤ _; decide, by show (1 : Nat) ≤ _; decide, by show (1 : Nat) ≤ _; decide, fun x hx => by
  simp only [exRA, List.mem_cons, List.not_mem_nil, or_false] at hx
  subst hx
  show (3 : Nat) ≤ _; decide, by show (2 : Nat) ≤ _; decide, by show (2 : Nat) ≤ _; decide⟩
theorem royal_calls (W : World) : Calls Tryz.prog 30 #[] W (News (fun z : ExR => (exRA z).v) exRB W) := by
  refine calls_start Tryz.func30 rfl rfl ?_
  refine st ?_
  refine RunL.new (New.alloc zero_41) rfl rfl rfl (fun b0 => ?_)
  refine st ?_
  refine lv (Val.build (parts := [(0, .const (.int .i64 20)), (1, .const (.int .i64 3)), (2, .const (.int .i64 30))]) rfl zero_124 places_124 rfl) ?_
  refine lv (Val.build (parts := [(0, .const (.int .i64 25)), (1, .const (.int .i64 12)), (2, .const (.int .i64 25))]) rfl zero_124 places_124 rfl) ?_
  refine RunL.new (New.buildSlice (parts := [(0, .tmp 1), (1, .tmp 2)]) rfl sl_37 zero_124 rfl rfl rfl rfl) rfl rfl rfl (fun b3 => ?_)
  refine RunL.new (New.buildSlice (parts := [(0, .const (.int .i64 99))]) rfl sl_31 zero_3 rfl rfl rfl rfl) rfl rfl rfl (fun b4 => ?_)
  refine RunL.new (New.buildSlice (parts := [(0, .const (.int .i64 334)), (1, .const (.int .i64 333)), (2, .const (.int .i64 333))]) rfl sl_31 zero_3 rfl rfl rfl rfl) rfl rfl rfl (fun b5 => ?_)
  refine RunL.new (New.buildSlice (parts := [(0, .tmp 5)]) rfl sl_38 zero_31 rfl rfl rfl rfl) rfl rfl rfl (fun b6 => ?_)
  refine lv (Val.build (parts := [(0, .const (.int .i64 0)), (2, .const (.int .i64 0)), (3, .const (.int .i64 5))]) rfl zero_76 places_76 rfl) ?_
  refine lv (Val.build (parts := [(0, .const (.int .i64 1)), (2, .const (.int .i64 4)), (3, .const (.int .i64 7))]) rfl zero_76 places_76 rfl) ?_
  refine RunL.new (New.buildSlice (parts := [(0, .tmp 7), (1, .tmp 8)]) rfl sl_39 zero_76 rfl rfl rfl rfl) rfl rfl rfl (fun b9 => ?_)
  refine RunL.new (New.buildSlice (parts := [(0, .const (.int .i64 0)), (1, .const (.int .i64 0))]) rfl sl_31 zero_3 rfl rfl rfl rfl) rfl rfl rfl (fun b10 => ?_)
  refine lv (Val.build (parts := [(0, .tmp 3), (1, .tmp 4), (2, .tmp 6), (3, .tmp 9), (4, .tmp 10)]) rfl zero_41 places_41 rfl) ?_
  refine RunL.sto (Sto.store rfl rfl (.there (.there (.there (.there (.there (.there .here)))))) ty_41 rfl rfl) rfl rfl ?_
  refine st ?_
  refine RunC.ret ?_
  exact RunE.ret (chg := []) (.r1 rfl (.agg rfl (.tail _ (.tail _ (.tail _ (.tail _ (.tail _ (.tail _ (.head _))))))) ty_41 rfl)) (fun _ hm => ⟨⟨b3, b4, b5, b6, b9, b10⟩, rfl, hm.pick (.cons (.there (.there (.there (.there (.there .here))))) rfl (.cons (.there (.there (.there (.there .here)))) rfl (.cons (.there (.there (.there .here))) rfl (.cons (.there (.there .here)) rfl (.cons (.there .here) rfl (.cons .here rfl .nil))))))⟩)
def exPA (z : Nat) : PsA := ⟨atB exP.cards z, exP.less, exP.loss⟩
def exPB (z : Nat) : Blks := [(z, cO (exP.cards.map Pt.cells).flatten 69)]
theorem exPA_pl (z : Nat) : (exPA z).pl = exP := rfl
theorem exPA_ok {z : Nat} {w W : World} {tl : Blks} (hm : Mem W [] (exPB z ++ tl) w) : (exPA z).cards.ok Pt.cells 5 w := by
  have h : ∀ b o, (b, o) ∈ exPB z → w.heap[b]? = some o := fun b o hb => hm.at (List.mem_append_right _ (List.mem_append_left _ hb))
  exact cO_ok _ (h _ _ (.head _)) (fun _ => rfl)
theorem prints_calls (W : World) : Calls Tryz.prog 31 #[] W (News (fun z : Nat => (exPA z).v) exPB W) := by
  refine calls_start Tryz.func31 rfl rfl ?_
  refine st ?_
  refine RunL.new (New.alloc zero_48) rfl rfl rfl (fun b0 => ?_)
  refine st ?_
  refine RunL.callP (isCall_func rfl ent_24) rfl rfl rfl (fun w hm => lspan_calls _ _ w) ?_
  refine RunL.callP (isCall_func rfl ent_24) rfl rfl rfl (fun w hm => lspan_calls _ _ w) ?_
  refine lv (Val.build (parts := [(0, .tmp 1), (1, .tmp 2)]) rfl zero_69 places_69 rfl) ?_
  refine RunL.new (New.buildSlice (parts := [(0, .tmp 3)]) rfl sl_44 zero_69 rfl rfl rfl rfl) rfl rfl rfl (fun b4 => ?_)
  refine RunL.callP (isCall_func rfl ent_24) rfl rfl rfl (fun w hm => lspan_calls _ _ w) ?_
  refine RunL.callP (isCall_func rfl ent_24) rfl rfl rfl (fun w hm => lspan_calls _ _ w) ?_
  refine lv (Val.build (parts := [(0, .tmp 4), (1, .tmp 5), (2, .tmp 6)]) rfl zero_48 places_48 rfl) ?_
  refine RunL.sto (Sto.store rfl rfl (.there .here) ty_48 rfl rfl) rfl rfl ?_
  refine st ?_
  refine RunC.ret ?_
  exact RunE.ret (chg := []) (.r1 rfl (.agg rfl (.tail _ (.head _)) ty_48 rfl)) (fun _ hm => ⟨b4, rfl, hm.pick (.cons .here rfl .nil)⟩)
end Go.Proofs.YtleamcmljcdapabGreatDoor
namespace Go.Proofs.YtleamcmljcdapabGreatDoor
open Go Go.Eng
theorem ent_10 : Enters Tryz.prog 10 := enters_of Tryz.func10 (by kernel_rfl) rfl
theorem ent_11 : Enters Tryz.prog 11 := enters_of Tryz.func11 (by kernel_rfl) rfl
theorem ent_12 : Enters Tryz.prog 12 := enters_of Tryz.func12 (by kernel_rfl) rfl
theorem ent_13 : Enters Tryz.prog 13 := enters_of Tryz.func13 (by kernel_rfl) rfl
theorem ent_14 : Enters Tryz.prog 14 := enters_of Tryz.func14 (by kernel_rfl) rfl
theorem ent_15 : Enters Tryz.prog 15 := enters_of Tryz.func15 (by kernel_rfl) rfl
theorem ent_16 : Enters Tryz.prog 16 := enters_of Tryz.func16 (by kernel_rfl) rfl
theorem ent_17 : Enters Tryz.prog 17 := enters_of Tryz.func17 (by kernel_rfl) rfl
theorem ent_18 : Enters Tryz.prog 18 := enters_of Tryz.func18 (by kernel_rfl) rfl
theorem ent_19 : Enters Tryz.prog 19 := enters_of Tryz.func19 (by kernel_rfl) rfl
theorem ent_20 : Enters Tryz.prog 20 := enters_of Tryz.func20 (by kernel_rfl) rfl
theorem ent_21 : Enters Tryz.prog 21 := enters_of Tryz.func21 (by kernel_rfl) rfl
theorem ent_28 : Enters Tryz.prog 28 := enters_of Tryz.func28 (by kernel_rfl) rfl
theorem ent_29 : Enters Tryz.prog 29 := enters_of Tryz.func29 (by kernel_rfl) rfl
theorem ent_30 : Enters Tryz.prog 30 := enters_of Tryz.func30 (by kernel_rfl) rfl
theorem ent_31 : Enters Tryz.prog 31 := enters_of Tryz.func31 (by kernel_rfl) rfl
theorem ent_9 : Enters Tryz.prog 9 := enters_of Tryz.func9 (by kernel_rfl) rfl
end Go.Proofs.YtleamcmljcdapabGreatDoor
namespace Go.Bk
open Go Go.Eng Go.RowKit
theorem grow_news {β : Type} {P : Program} {f : FuncId} {args : Array Value} {w : World} {v : β → Value} {nw : β → Blks} {I : β → Prop} (h : Calls P f args w (Grow w [] v nw I)) : Calls P f args w (News (fun z : { b // I b } => v z.1) (fun z => nw z.1) w) :=
  calls_mono h (by rintro e w' ⟨b, h1, h2, h3⟩; exact ⟨⟨b, h1⟩, h2, h3⟩)
theorem rd_ok {α β : Type} {x : Except Int α} {pl : β → α} {ok : β → Prop} {z0 z : β} {e : Int} {t : α} (h : RdX x pl ok z0 (z, e)) (hx : x = .ok t) : pl z = t ∧ e = 0 ∧ ok z := by
  rcases h with ⟨t', h1, h2, h3, h4⟩ | ⟨k, h1, _⟩
  · rw [hx] at h1; cases h1; exact ⟨h2, h3, h4⟩
  · rw [hx] at h1; cases h1
end Go.Bk
namespace Go.Proofs.YtleamcmljcdapabGreatDoor
open Go Go.Eng Go.Bk Go.RowKit

theorem wT (z : ExT) : writeV (tourX (exTA z).pl) (tourS (exTA z).pl) = .tuple #[.string (bs exTS), .int .i64 0] := by rw [exTA_pl, ← exT_text]; rfl
theorem wC (z : ExC) : writeV (cabX (exCA z).pl) (cabS (exCA z).pl) = .tuple #[.string (bs exCS), .int .i64 0] := by rw [exCA_pl, ← exC_text]; rfl
theorem wR (z : ExR) : writeV (royalX (exRA z).pl) (royalS (exRA z).pl) = .tuple #[.string (bs exRS), .int .i64 0] := by rw [exRA_pl, ← exR_text]; rfl
/-- What is read is compared with something. -/
theorem sameTX_calls (x : TrX) (h : TrXOk 10000 x) (u : TrA) (hs : TrSm u) (tl : Blks) (W0 w : World) (hm : Mem W0 [] (trB x ++ tl) w) (hU : TrOk w u) : Calls Tryz.prog 14 #[.agg x.cells.toArray, u.v] w (Pure (.bool (decide (x.pl = u.pl))) w) := by
  have h1 := rsameTour_calls x.toA u (h.sm (Nat.le_refl _)) hs w (trX_ok h hm) hU
  rw [TrX.toA_pl] at h1
  have e : x.toA.v = .agg x.cells.toArray := by unfold TrA.v; rw [h.cells]
  rw [e] at h1
  exact h1
theorem sameCX_calls (x : CbX) (h : CbXOk 10000 x) (u : CbA) (hs : CbS u) (tl : Blks) (W0 w : World) (hm : Mem W0 [] (cbB x ++ tl) w) (hU : CbOk w u) : Calls Tryz.prog 16 #[.agg x.cells.toArray, u.v] w (Pure (.bool (decide (x.pl = u.pl))) w) := by
  have h1 := rsameCabinet_calls x.toA u (h.sm (Nat.le_refl _)) hs w (cbX_ok h hm) hU
  rw [CbX.toA_pl] at h1
  have e : x.toA.v = .agg x.cells.toArray := by unfold CbA.v; rw [h.cells]
  rw [e] at h1
  exact h1
theorem sameRX_calls (x : RyX) (h : RyXOk 10000 x) (u : RyA) (hs : RySm u) (tl : Blks) (W0 w : World) (hm : Mem W0 [] (ryB x ++ tl) w) (hU : RyOk w u) : Calls Tryz.prog 18 #[.agg x.cells.toArray, u.v] w (Pure (.bool (decide (x.pl = u.pl))) w) := by
  have h1 := rsameRoyal_calls x.toA u (h.sm (Nat.le_refl _)) hs w (ryX_ok h hm) hU
  rw [RyX.toA_pl] at h1
  have e : x.toA.v = .agg x.cells.toArray := by unfold RyA.v; rw [h.cells]
  rw [e] at h1
  exact h1
theorem samePX_calls (x : PsX) (h : PsXOk x) (hl : x.cards.2.length ≤ 1000000) (u : PsA) (hs : u.cards.l.length ≤ 1000000) (tl : Blks) (W0 w : World) (hm : Mem W0 [] (ptB x.cards ++ tl) w) (hU : u.cards.ok Pt.cells 5 w) : Calls Tryz.prog 21 #[.agg x.cells.toArray, u.v] w (Pure (.bool (decide (x.pl = u.pl))) w) := by
  have h1 := rsamePrints_calls x.toA u w (own_sl (f := Pt.cells) (e := 69) (fun _ => rfl) (by decide) h (fun b o hb => (hm.newd b o (List.mem_append_left _ hb)).2)) hU hl hs
  have e : x.toA.v = .agg x.cells.toArray := by
    show Value.agg [(OL.sa x.cards).v, _, _, _, _].toArray = _
    rw [OL.sa_v h]
    rfl
  rw [e] at h1
  exact h1
theorem one_psX (x : PsX) : ∀ v ∈ x.cells, isOne v = true := fun v hv => by
  simp only [PsX.cells, List.mem_cons, List.not_mem_nil, or_false] at hv
  rcases hv with rfl | rfl | rfl | rfl | rfl <;> first | rfl | exact own_one _ _
theorem pure_true {P : Program} {f : FuncId} {args : Array Value} {w : World} {p : Prop} [Decidable p] (h : Calls P f args w (Pure (.bool (decide p)) w)) (hp : p) : Calls P f args w (Pure (.bool true) w) := by rw [decide_eq_true hp] at h; exact h
set_option maxHeartbeats 1000000 in
theorem alive_calls (W : World) (hL : Lw Tryz.prog W) : Calls Tryz.prog 8 #[] W (Pure (.bool true) W) := by
  refine calls_start Tryz.func8 rfl rfl ?_
  refine csr ?_
  refine vp rfl rfl rfl rfl ?_
  refine nsr ?_
  refine RunL.callN (isCall_func rfl ent_28) rfl rfl rfl (fun w hm => tour_calls w) (fun b18 => ?_)
  refine RunL.callP (isCall_func rfl ent_13) rfl rfl rfl (fun w hm => (by have h9 := WriteTour_calls (exTA b18) (exTA_sm b18) w (hL.mono hm) (exTA_ok hm); rw [wT] at h9; exact h9)) ?_
  iterate 5 refine vp rfl rfl rfl rfl ?_
  refine nnx ?_
  refine RunC.seq ?_
  refine RunC.keep (Sub.cons (t := 0) rfl (Sub.cons (t := 1) rfl (Sub.cons (t := 2) rfl (Sub.nil _)))) .nil ?_
  refine RunC.region ?_
  refine RunL.callN (isCall_func rfl ent_29) rfl rfl rfl (fun w hm => cabinet_calls w) (fun b23 => ?_)
  refine RunL.callP (isCall_func rfl ent_15) rfl rfl rfl (fun w hm => (by have h9 := WriteCabinet_calls (exCA b23) (exCA_s b23) w (hL.mono hm) (exCA_ok hm); rw [wC] at h9; exact h9)) ?_
  iterate 5 refine vp rfl rfl rfl rfl ?_
  refine nnx ?_
  refine RunC.seq ?_
  refine RunC.keep (Sub.cons (t := 0) rfl (Sub.cons (t := 1) rfl (Sub.cons (t := 2) rfl (Sub.cons (t := 3) rfl (Sub.cons (t := 4) rfl (Sub.nil _)))))) .nil ?_
  refine RunC.region ?_
  refine RunL.callN (isCall_func rfl ent_30) rfl rfl rfl (fun w hm => royal_calls w) (fun b28 => ?_)
  refine RunL.callP (isCall_func rfl ent_17) rfl rfl rfl (fun w hm => (by have h9 := WriteRoyal_calls (exRA b28) (exRA_sm b28) w (hL.mono hm) (exRA_ok hm); rw [wR] at h9; exact h9)) ?_
  iterate 5 refine vp rfl rfl rfl rfl ?_
  refine nnx ?_
  refine RunC.seq ?_
  refine RunC.keep (Sub.cons (t := 0) rfl (Sub.cons (t := 1) rfl (Sub.cons (t := 2) rfl (Sub.cons (t := 3) rfl (Sub.cons (t := 4) rfl (Sub.cons (t := 5) rfl (Sub.cons (t := 6) rfl (Sub.nil _)))))))) .nil ?_
  refine RunC.region ?_
  refine RunL.callN (isCall_func rfl ent_31) rfl rfl rfl (fun w hm => prints_calls w) (fun b33 => ?_)
  refine RunL.callNT (isCall_func rfl ent_19) rfl rfl rfl (fun w hm => (by have h9 := writePrints_ok (exPA b33) w (exPA_ok hm) exP_ok; simp only [exPA_pl, exP_bytes] at h9; exact grow_news h9)) (fun z34 => ?_)
  obtain ⟨y34, hy34⟩ := z34
  dsimp only
  iterate 5 refine vp rfl rfl rfl rfl ?_
  refine nnx ?_
  refine RunC.seq ?_
  refine RunC.seq ?_
  refine RunC.keep (Sub.cons (t := 0) rfl (Sub.cons (t := 1) rfl (Sub.cons (t := 2) rfl (Sub.cons (t := 3) rfl (Sub.cons (t := 4) rfl (Sub.cons (t := 5) rfl (Sub.cons (t := 6) rfl (Sub.cons (t := 7) rfl (Sub.cons (t := 8) rfl (Sub.nil _)))))))))) (Pick.skip (Pick.refl _)) ?_
  refine RunC.region ?_
  refine vp rfl rfl rfl rfl ?_
  refine RunL.val (Val.neqStr rfl rfl) rfl rfl rfl ?_
  refine vp rfl rfl rfl rfl ?_
  refine RunL.sure (dj := 39) false rfl (ndec rfl) ?_
  iterate 4 refine vp rfl rfl rfl rfl ?_
  refine RunL.sure (dj := 43) false rfl (by decide) ?_
  refine vp rfl rfl rfl rfl ?_
  refine RunL.val (Val.neqStr rfl rfl) rfl rfl rfl ?_
  refine vp rfl rfl rfl rfl ?_
  refine vp rfl rfl rfl rfl ?_
  refine RunL.sure (dj := 47) false rfl (ndec rfl) ?_
  iterate 4 refine vp rfl rfl rfl rfl ?_
  refine RunL.sure (dj := 51) false rfl (by decide) ?_
  refine vp rfl rfl rfl rfl ?_
  refine RunL.val (Val.neqStr rfl rfl) rfl rfl rfl ?_
  refine vp rfl rfl rfl rfl ?_
  refine vp rfl rfl rfl rfl ?_
  refine RunL.sure (dj := 55) false rfl (ndec rfl) ?_
  iterate 4 refine vp rfl rfl rfl rfl ?_
  refine RunL.sure (dj := 59) false rfl (by decide) ?_
  refine vp rfl rfl rfl rfl ?_
  refine RunL.new (New.buildSlice (parts := [(0, .const (.int .u8 80)), (1, .const (.int .u8 1)), (2, .const (.int .u8 0)), (3, .const (.int .u8 100)), (4, .const (.int .u8 0)), (5, .const (.int .u8 1)), (6, .const (.int .u8 1)), (7, .const (.int .u8 244)), (8, .const (.int .u8 0)), (9, .const (.int .u8 5)), (10, .const (.int .u8 0)), (11, .const (.int .u8 0)), (12, .const (.int .u8 0)), (13, .const (.int .u8 3)), (14, .const (.int .u8 0)), (15, .const (.int .u8 2)), (16, .const (.int .u8 0)), (17, .const (.int .u8 10)), (18, .const (.int .u8 0)), (19, .const (.int .u8 10)), (20, .const (.int .u8 29)), (21, .const (.int .u8 39))]) rfl sl_22 zero_5 rfl rfl rfl rfl) rfl rfl rfl (fun b61 => ?_)
  refine RunL.callP (isCall_func rfl ent_20) rfl rfl rfl (fun w hm => (pure_true (by rw [ownV_slice hy34]; exact rsameBytes_calls ⟨exPS, ownQ y34, ownK y34, 0, ownC y34⟩ (atB exPS b61) w (own_bytes hy34 (fun b o h => hm.at (.tail _ ((by first | exact List.mem_append_left _ h | exact List.mem_append_right _ (List.mem_append_left _ h)))))) (cO_ok (f := byC) exPS (hm.at (.head _)) (fun _ => rfl))) rfl)) ?_
  iterate 3 refine vp rfl rfl rfl rfl ?_
  refine RunL.sure (dj := 65) false rfl rfl ?_
  iterate 3 refine vp rfl rfl rfl rfl ?_
  refine nnx ?_
  refine RunC.cond rfl (fun h => absurd h (by decide)) ?_
  intro c0
  clear c0
  refine RunC.skip ?_
  refine RunE.next ?_
  refine csr ?_
  refine vp rfl rfl rfl rfl ?_
  refine RunL.callNA [(b61, _)] _ rfl (isCall_func rfl ent_9) rfl rfl rfl (fun w hm => grow_news (ReadTour_calls exTS w (hL.mono hm) (by rw [exT_len]; decide))) (fun z71 => ?_)
  obtain ⟨⟨x71, e71⟩, h71⟩ := z71
  obtain ⟨p71, e171, o71⟩ := rd_ok h71 exT_read
  subst e171
  dsimp only
  iterate 3 refine vp rfl rfl rfl rfl ?_
  refine RunL.new (New.alloc zero_27) rfl rfl rfl (fun b9 => ?_)
  refine RunL.sto (Sto.store (cs := zsrdT) (cs' := x71.cells) rfl rfl .here ty_27 rfl (paste_over rfl (one_trX _))) rfl rfl ?_
  refine vp rfl rfl rfl rfl ?_
  refine nsr ?_
  refine vp rfl rfl rfl rfl ?_
  refine RunL.callNA [(b9, _), (b61, _)] _ rfl (isCall_func rfl ent_10) rfl rfl rfl (fun w hm => grow_news (ReadCabinet_calls exCS w (hL.mono hm) (by rw [exC_len]; decide))) (fun z76 => ?_)
  obtain ⟨⟨x76, e76⟩, h76⟩ := z76
  obtain ⟨p76, e176, o76⟩ := rd_ok h76 exC_read
  subst e176
  dsimp only
  iterate 3 refine vp rfl rfl rfl rfl ?_
  refine RunL.new (New.alloc zero_34) rfl rfl rfl (fun b11 => ?_)
  refine RunL.sto (Sto.store (cs := zsrdC) (cs' := x76.cells) rfl rfl .here ty_34 rfl (paste_over rfl (one_cbX _))) rfl rfl ?_
  refine vp rfl rfl rfl rfl ?_
  refine nsr ?_
  refine vp rfl rfl rfl rfl ?_
  refine RunL.callNA [(b11, _), (b9, _), (b61, _)] _ rfl (isCall_func rfl ent_11) rfl rfl rfl (fun w hm => grow_news (ReadRoyal_calls exRS w (hL.mono hm) (by rw [exR_len]; decide))) (fun z81 => ?_)
  obtain ⟨⟨x81, e81⟩, h81⟩ := z81
  obtain ⟨p81, e181, o81⟩ := rd_ok h81 exR_read
  subst e181
  dsimp only
  iterate 3 refine vp rfl rfl rfl rfl ?_
  refine RunL.new (New.alloc zero_41) rfl rfl rfl (fun b13 => ?_)
  refine RunL.sto (Sto.store (cs := zsrdR) (cs' := x81.cells) rfl rfl .here ty_41 rfl (paste_over rfl (one_ryX _))) rfl rfl ?_
  refine vp rfl rfl rfl rfl ?_
  refine nsr ?_
  refine vp rfl rfl rfl rfl ?_
  refine RunL.callNA [(b13, _), (b11, _), (b9, _), (b61, _)] _ rfl (isCall_func rfl ent_12) rfl rfl rfl (fun w hm => (by rw [ownV_slice hy34]; exact grow_news (ReadPrints_calls exPS (ownQ y34) (ownK y34) 0 (ownC y34) w (own_bytes hy34 (fun b o h => hm.at (.tail _ (.tail _ (.tail _ (.tail _ ((by first | exact List.mem_append_right _ (List.mem_append_right _ (List.mem_append_right _ (List.mem_append_left _ h))) | exact List.mem_append_right _ (List.mem_append_right _ (List.mem_append_right _ (List.mem_append_right _ (List.mem_append_left _ h)))))))))))) (by decide)))) (fun z86 => ?_)
  obtain ⟨⟨x86, e86⟩, h86⟩ := z86
  obtain ⟨p86, e186, o86⟩ := rd_ok h86 exP_read
  subst e186
  dsimp only
  iterate 3 refine vp rfl rfl rfl rfl ?_
  refine RunL.new (New.alloc zero_48) rfl rfl rfl (fun b15 => ?_)
  refine RunL.sto (Sto.store (cs := zeroPX.cells) (cs' := x86.cells) rfl rfl .here ty_48 rfl (paste_over rfl (one_psX _))) rfl rfl ?_
  refine vp rfl rfl rfl rfl ?_
  refine nnx ?_
  refine RunC.seq ?_
  refine RunC.draw 28 fol_ (.cons .here rfl (.cons .here rfl (.cons .here rfl (.cons .here rfl (.cons .here rfl .nil))))) ?_
  refine va 0 rfl (Val.load_agg rfl (.tail _ (.tail _ (.tail _ (.head _)))) ty_27 rfl) rfl rfl rfl (.cons .here rfl (.cons .here rfl (.cons .here rfl (.cons .here rfl (.cons .here rfl .nil))))) rfl ?_
  refine RunA.one (i := 1) (by kernel_rfl) (by kernel_rfl) ?_
  refine RunI.callN rfl (isCall_func rfl ent_28) rfl rfl rfl (fun w hm => tour_calls w) (fun b90 => (RunK.toA (.cons .here rfl (.cons .here rfl (.cons .here rfl (.cons .here rfl (.cons .here rfl (.cons .here rfl (.cons .here rfl (.cons .here rfl (.cons .here rfl (.cons .here rfl (.cons .here rfl (.cons .here rfl .nil)))))))))))) (.cons (.there (.there (.there (.there (.there (.there (.there .here))))))) rfl (.cons (.there (.there (.there (.there (.there (.there (.there .here))))))) rfl (.cons (.there (.there (.there (.there (.there (.there (.there .here))))))) rfl (.cons (.there (.there (.there (.there (.there (.there (.there .here))))))) rfl (.cons (.there (.there (.there (.there (.there (.there (.there .here))))))) rfl .nil))))) rfl ?_))
  refine RunA.one (i := 2) (by kernel_rfl) (by kernel_rfl) ?_
  refine RunI.callP rfl (isCall_func rfl ent_14) rfl rfl rfl (fun w hm => (pure_true (sameTX_calls x71 o71 (exTA b90) (exTA_sm b90) [] W w (hm.pick (news' := trB x71 ++ []) (Pick.cnt fun x => by simp only [nC]; omega)) (exTA_ok hm)) p71)) (RunK.toA (.cons .here rfl (.cons .here rfl (.cons .here rfl (.cons .here rfl (.cons .here rfl (.cons .here rfl (.cons .here rfl (.cons .here rfl (.cons .here rfl (.cons .here rfl (.cons .here rfl (.cons .here rfl .nil)))))))))))) (.cons .here rfl (.cons .here rfl (.cons .here rfl (.cons .here rfl (.cons .here rfl (.cons .here rfl (.cons .here rfl (.cons .here rfl (.cons .here rfl (.cons .here rfl (.cons .here rfl (.cons .here rfl .nil)))))))))))) rfl ?_)
  refine va 3 rfl (Val.pure rfl) rfl rfl rfl (.cons .here rfl (.cons .here rfl (.cons .here rfl (.cons .here rfl (.cons .here rfl (.cons .here rfl (.cons .here rfl (.cons .here rfl (.cons .here rfl (.cons .here rfl (.cons .here rfl (.cons .here rfl .nil)))))))))))) rfl ?_
  refine RunA.sure (dj := 92) true rfl (by rfl) ?_
  refine va 4 rfl (Val.pure rfl) rfl rfl rfl (.cons .here rfl (.cons .here rfl (.cons .here rfl (.cons .here rfl (.cons .here rfl (.cons .here rfl (.cons .here rfl (.cons .here rfl (.cons .here rfl (.cons .here rfl (.cons .here rfl (.cons .here rfl .nil)))))))))))) rfl ?_
  refine va 5 rfl (Val.pure rfl) rfl rfl rfl (.cons .here rfl (.cons .here rfl (.cons .here rfl (.cons .here rfl (.cons .here rfl (.cons .here rfl (.cons .here rfl (.cons .here rfl (.cons .here rfl (.cons .here rfl (.cons .here rfl (.cons .here rfl .nil)))))))))))) rfl ?_
  refine va 6 rfl (Val.pure rfl) rfl rfl rfl (.cons .here rfl (.cons .here rfl (.cons .here rfl (.cons .here rfl (.cons .here rfl (.cons .here rfl (.cons .here rfl (.cons .here rfl (.cons .here rfl (.cons .here rfl (.cons .here rfl (.cons .here rfl .nil)))))))))))) rfl ?_
  refine va 7 rfl (Val.pure rfl) rfl rfl rfl (.cons .here rfl (.cons .here rfl (.cons .here rfl (.cons .here rfl (.cons .here rfl (.cons .here rfl (.cons .here rfl (.cons .here rfl (.cons .here rfl (.cons .here rfl (.cons .here rfl (.cons .here rfl .nil)))))))))))) rfl ?_
  refine RunA.sure (dj := 96) true rfl (by rfl) ?_
  refine va 8 rfl (Val.load_agg rfl (.tail _ (.tail _ (.tail _ (.tail _ (.tail _ (.tail _ (.tail _ (.tail _ (.tail _ (.head _)))))))))) ty_34 rfl) rfl rfl rfl (.cons .here rfl (.cons .here rfl (.cons .here rfl (.cons .here rfl (.cons .here rfl (.cons .here rfl (.cons .here rfl (.cons .here rfl (.cons .here rfl (.cons .here rfl (.cons .here rfl (.cons .here rfl .nil)))))))))))) rfl ?_
  refine RunA.one (i := 9) (by kernel_rfl) (by kernel_rfl) ?_
  refine RunI.callN rfl (isCall_func rfl ent_29) rfl rfl rfl (fun w hm => cabinet_calls w) (fun b98 => (RunK.toA (.cons .here rfl (.cons .here rfl (.cons .here rfl (.cons .here rfl (.cons .here rfl (.cons .here rfl (.cons .here rfl (.cons .here rfl (.cons .here rfl (.cons .here rfl (.cons .here rfl (.cons .here rfl (.cons .here rfl (.cons .here rfl .nil)))))))))))))) (.cons (.there (.there .here)) rfl (.cons (.there (.there .here)) rfl (.cons (.there (.there .here)) rfl (.cons (.there (.there .here)) rfl (.cons (.there (.there .here)) rfl (.cons (.there (.there .here)) rfl (.cons (.there (.there .here)) rfl (.cons (.there (.there .here)) rfl (.cons (.there (.there .here)) rfl (.cons (.there (.there .here)) rfl (.cons (.there (.there .here)) rfl (.cons (.there (.there .here)) rfl .nil)))))))))))) rfl ?_))
  refine RunA.one (i := 10) (by kernel_rfl) (by kernel_rfl) ?_
  refine RunI.callP rfl (isCall_func rfl ent_16) rfl rfl rfl (fun w hm => (pure_true (sameCX_calls x76 o76 (exCA b98) (exCA_s b98) [] W w (hm.pick (news' := cbB x76 ++ []) (Pick.cnt fun x => by simp only [nC]; omega)) (exCA_ok hm)) p76)) (RunK.toA (.cons .here rfl (.cons .here rfl (.cons .here rfl (.cons .here rfl (.cons .here rfl (.cons .here rfl (.cons .here rfl (.cons .here rfl (.cons .here rfl (.cons .here rfl (.cons .here rfl (.cons .here rfl (.cons .here rfl (.cons .here rfl .nil)))))))))))))) (.cons .here rfl (.cons .here rfl (.cons .here rfl (.cons .here rfl (.cons .here rfl (.cons .here rfl (.cons .here rfl (.cons .here rfl (.cons .here rfl (.cons .here rfl (.cons .here rfl (.cons .here rfl (.cons .here rfl (.cons .here rfl .nil)))))))))))))) rfl ?_)
  refine va 11 rfl (Val.pure rfl) rfl rfl rfl (.cons .here rfl (.cons .here rfl (.cons .here rfl (.cons .here rfl (.cons .here rfl (.cons .here rfl (.cons .here rfl (.cons .here rfl (.cons .here rfl (.cons .here rfl (.cons .here rfl (.cons .here rfl (.cons .here rfl (.cons .here rfl .nil)))))))))))))) rfl ?_
  refine va 12 rfl (Val.pure rfl) rfl rfl rfl (.cons .here rfl (.cons .here rfl (.cons .here rfl (.cons .here rfl (.cons .here rfl (.cons .here rfl (.cons .here rfl (.cons .here rfl (.cons .here rfl (.cons .here rfl (.cons .here rfl (.cons .here rfl (.cons .here rfl (.cons .here rfl .nil)))))))))))))) rfl ?_
  refine RunA.sure (dj := 101) true rfl (by rfl) ?_
  refine va 13 rfl (Val.pure rfl) rfl rfl rfl (.cons .here rfl (.cons .here rfl (.cons .here rfl (.cons .here rfl (.cons .here rfl (.cons .here rfl (.cons .here rfl (.cons .here rfl (.cons .here rfl (.cons .here rfl (.cons .here rfl (.cons .here rfl (.cons .here rfl (.cons .here rfl .nil)))))))))))))) rfl ?_
  refine va 14 rfl (Val.pure rfl) rfl rfl rfl (.cons .here rfl (.cons .here rfl (.cons .here rfl (.cons .here rfl (.cons .here rfl (.cons .here rfl (.cons .here rfl (.cons .here rfl (.cons .here rfl (.cons .here rfl (.cons .here rfl (.cons .here rfl (.cons .here rfl (.cons .here rfl .nil)))))))))))))) rfl ?_
  refine va 15 rfl (Val.pure rfl) rfl rfl rfl (.cons .here rfl (.cons .here rfl (.cons .here rfl (.cons .here rfl (.cons .here rfl (.cons .here rfl (.cons .here rfl (.cons .here rfl (.cons .here rfl (.cons .here rfl (.cons .here rfl (.cons .here rfl (.cons .here rfl (.cons .here rfl .nil)))))))))))))) rfl ?_
  refine va 16 rfl (Val.pure rfl) rfl rfl rfl (.cons .here rfl (.cons .here rfl (.cons .here rfl (.cons .here rfl (.cons .here rfl (.cons .here rfl (.cons .here rfl (.cons .here rfl (.cons .here rfl (.cons .here rfl (.cons .here rfl (.cons .here rfl (.cons .here rfl (.cons .here rfl .nil)))))))))))))) rfl ?_
  refine RunA.sure (dj := 105) true rfl (by rfl) ?_
  refine va 17 rfl (Val.load_agg rfl (.tail _ (.tail _ (.tail _ (.tail _ (.tail _ (.tail _ (.tail _ (.tail _ (.tail _ (.tail _ (.head _))))))))))) ty_41 rfl) rfl rfl rfl (.cons .here rfl (.cons .here rfl (.cons .here rfl (.cons .here rfl (.cons .here rfl (.cons .here rfl (.cons .here rfl (.cons .here rfl (.cons .here rfl (.cons .here rfl (.cons .here rfl (.cons .here rfl (.cons .here rfl (.cons .here rfl .nil)))))))))))))) rfl ?_
  refine RunA.one (i := 18) (by kernel_rfl) (by kernel_rfl) ?_
  refine RunI.callN rfl (isCall_func rfl ent_30) rfl rfl rfl (fun w hm => royal_calls w) (fun b107 => (RunK.toA (.cons .here rfl (.cons .here rfl (.cons .here rfl (.cons .here rfl (.cons .here rfl (.cons .here rfl (.cons .here rfl (.cons .here rfl (.cons .here rfl (.cons .here rfl (.cons .here rfl (.cons .here rfl (.cons .here rfl (.cons .here rfl (.cons .here rfl (.cons .here rfl (.cons .here rfl (.cons .here rfl (.cons .here rfl (.cons .here rfl .nil)))))))))))))))))))) (.cons (.there (.there (.there (.there (.there (.there .here)))))) rfl (.cons (.there (.there (.there (.there (.there (.there .here)))))) rfl (.cons (.there (.there (.there (.there (.there (.there .here)))))) rfl (.cons (.there (.there (.there (.there (.there (.there .here)))))) rfl (.cons (.there (.there (.there (.there (.there (.there .here)))))) rfl (.cons (.there (.there (.there (.there (.there (.there .here)))))) rfl (.cons (.there (.there (.there (.there (.there (.there .here)))))) rfl (.cons (.there (.there (.there (.there (.there (.there .here)))))) rfl (.cons (.there (.there (.there (.there (.there (.there .here)))))) rfl (.cons (.there (.there (.there (.there (.there (.there .here)))))) rfl (.cons (.there (.there (.there (.there (.there (.there .here)))))) rfl (.cons (.there (.there (.there (.there (.there (.there .here)))))) rfl (.cons (.there (.there (.there (.there (.there (.there .here)))))) rfl (.cons (.there (.there (.there (.there (.there (.there .here)))))) rfl .nil)))))))))))))) rfl ?_))
  refine RunA.one (i := 19) (by kernel_rfl) (by kernel_rfl) ?_
  refine RunI.callP rfl (isCall_func rfl ent_18) rfl rfl rfl (fun w hm => (pure_true (sameRX_calls x81 o81 (exRA b107) (exRA_sm b107) [] W w (hm.pick (news' := ryB x81 ++ []) (Pick.cnt fun x => by simp only [nC]; omega)) (exRA_ok hm)) p81)) (RunK.toA (.cons .here rfl (.cons .here rfl (.cons .here rfl (.cons .here rfl (.cons .here rfl (.cons .here rfl (.cons .here rfl (.cons .here rfl (.cons .here rfl (.cons .here rfl (.cons .here rfl (.cons .here rfl (.cons .here rfl (.cons .here rfl (.cons .here rfl (.cons .here rfl (.cons .here rfl (.cons .here rfl (.cons .here rfl (.cons .here rfl .nil)))))))))))))))))))) (.cons .here rfl (.cons .here rfl (.cons .here rfl (.cons .here rfl (.cons .here rfl (.cons .here rfl (.cons .here rfl (.cons .here rfl (.cons .here rfl (.cons .here rfl (.cons .here rfl (.cons .here rfl (.cons .here rfl (.cons .here rfl (.cons .here rfl (.cons .here rfl (.cons .here rfl (.cons .here rfl (.cons .here rfl (.cons .here rfl .nil)))))))))))))))))))) rfl ?_)
  refine va 20 rfl (Val.pure rfl) rfl rfl rfl (.cons .here rfl (.cons .here rfl (.cons .here rfl (.cons .here rfl (.cons .here rfl (.cons .here rfl (.cons .here rfl (.cons .here rfl (.cons .here rfl (.cons .here rfl (.cons .here rfl (.cons .here rfl (.cons .here rfl (.cons .here rfl (.cons .here rfl (.cons .here rfl (.cons .here rfl (.cons .here rfl (.cons .here rfl (.cons .here rfl .nil)))))))))))))))))))) rfl ?_
  refine va 21 rfl (Val.pure rfl) rfl rfl rfl (.cons .here rfl (.cons .here rfl (.cons .here rfl (.cons .here rfl (.cons .here rfl (.cons .here rfl (.cons .here rfl (.cons .here rfl (.cons .here rfl (.cons .here rfl (.cons .here rfl (.cons .here rfl (.cons .here rfl (.cons .here rfl (.cons .here rfl (.cons .here rfl (.cons .here rfl (.cons .here rfl (.cons .here rfl (.cons .here rfl .nil)))))))))))))))))))) rfl ?_
  refine RunA.sure (dj := 110) true rfl (by rfl) ?_
  refine va 22 rfl (Val.pure rfl) rfl rfl rfl (.cons .here rfl (.cons .here rfl (.cons .here rfl (.cons .here rfl (.cons .here rfl (.cons .here rfl (.cons .here rfl (.cons .here rfl (.cons .here rfl (.cons .here rfl (.cons .here rfl (.cons .here rfl (.cons .here rfl (.cons .here rfl (.cons .here rfl (.cons .here rfl (.cons .here rfl (.cons .here rfl (.cons .here rfl (.cons .here rfl .nil)))))))))))))))))))) rfl ?_
  refine va 23 rfl (Val.pure rfl) rfl rfl rfl (.cons .here rfl (.cons .here rfl (.cons .here rfl (.cons .here rfl (.cons .here rfl (.cons .here rfl (.cons .here rfl (.cons .here rfl (.cons .here rfl (.cons .here rfl (.cons .here rfl (.cons .here rfl (.cons .here rfl (.cons .here rfl (.cons .here rfl (.cons .here rfl (.cons .here rfl (.cons .here rfl (.cons .here rfl (.cons .here rfl .nil)))))))))))))))))))) rfl ?_
  refine va 24 rfl (Val.pure rfl) rfl rfl rfl (.cons .here rfl (.cons .here rfl (.cons .here rfl (.cons .here rfl (.cons .here rfl (.cons .here rfl (.cons .here rfl (.cons .here rfl (.cons .here rfl (.cons .here rfl (.cons .here rfl (.cons .here rfl (.cons .here rfl (.cons .here rfl (.cons .here rfl (.cons .here rfl (.cons .here rfl (.cons .here rfl (.cons .here rfl (.cons .here rfl .nil)))))))))))))))))))) rfl ?_
  refine va 25 rfl (Val.pure rfl) rfl rfl rfl (.cons .here rfl (.cons .here rfl (.cons .here rfl (.cons .here rfl (.cons .here rfl (.cons .here rfl (.cons .here rfl (.cons .here rfl (.cons .here rfl (.cons .here rfl (.cons .here rfl (.cons .here rfl (.cons .here rfl (.cons .here rfl (.cons .here rfl (.cons .here rfl (.cons .here rfl (.cons .here rfl (.cons .here rfl (.cons .here rfl .nil)))))))))))))))))))) rfl ?_
  refine RunA.sure (dj := 114) true rfl (by rfl) ?_
  refine va 26 rfl (Val.load_agg rfl (.tail _ (.tail _ (.tail _ (.tail _ (.tail _ (.tail _ (.tail _ (.tail _ (.tail _ (.tail _ (.tail _ (.tail _ (.tail _ (.tail _ (.tail _ (.head _)))))))))))))))) ty_48 rfl) rfl rfl rfl (.cons .here rfl (.cons .here rfl (.cons .here rfl (.cons .here rfl (.cons .here rfl (.cons .here rfl (.cons .here rfl (.cons .here rfl (.cons .here rfl (.cons .here rfl (.cons .here rfl (.cons .here rfl (.cons .here rfl (.cons .here rfl (.cons .here rfl (.cons .here rfl (.cons .here rfl (.cons .here rfl (.cons .here rfl (.cons .here rfl .nil)))))))))))))))))))) rfl ?_
  refine RunA.one (i := 27) (by kernel_rfl) (by kernel_rfl) ?_
  refine RunI.callN rfl (isCall_func rfl ent_31) rfl rfl rfl (fun w hm => prints_calls w) (fun b116 => (RunK.toA (.cons .here rfl (.cons .here rfl (.cons .here rfl (.cons .here rfl (.cons .here rfl (.cons .here rfl (.cons .here rfl (.cons .here rfl (.cons .here rfl (.cons .here rfl (.cons .here rfl (.cons .here rfl (.cons .here rfl (.cons .here rfl (.cons .here rfl (.cons .here rfl (.cons .here rfl (.cons .here rfl (.cons .here rfl (.cons .here rfl (.cons .here rfl .nil))))))))))))))))))))) (.cons (.there .here) rfl (.cons (.there .here) rfl (.cons (.there .here) rfl (.cons (.there .here) rfl (.cons (.there .here) rfl (.cons (.there .here) rfl (.cons (.there .here) rfl (.cons (.there .here) rfl (.cons (.there .here) rfl (.cons (.there .here) rfl (.cons (.there .here) rfl (.cons (.there .here) rfl (.cons (.there .here) rfl (.cons (.there .here) rfl (.cons (.there .here) rfl (.cons (.there .here) rfl (.cons (.there .here) rfl (.cons (.there .here) rfl (.cons (.there .here) rfl (.cons (.there .here) rfl .nil)))))))))))))))))))) rfl ?_))
  refine RunA.toB (by kernel_rfl) ?_
  refine RunB.one (i := 28) (by kernel_rfl) ?_
  refine RunI.callP rfl (isCall_func rfl ent_21) rfl rfl rfl (fun w hm => (pure_true (samePX_calls x86 o86 (by have h9 := congrArg (fun q : Ps => q.cards.length) p86; have h8 : x86.cards.2.length = 1 := h9; omega) (exPA b116) (by show (1 : Nat) ≤ _; decide) [] W w (hm.pick (news' := ptB x86.cards ++ []) (Pick.cnt fun x => by simp only [nC]; omega)) (exPA_ok hm)) p86)) (RunK.toB ?_)
  refine RunB.one (i := 29) (by kernel_rfl) ?_
  refine RunI.val rfl (Val.pure rfl) rfl rfl rfl (RunK.toB ?_)
  refine RunB.one (i := 30) (by kernel_rfl) ?_
  refine RunI.val rfl (Val.pure rfl) rfl rfl rfl (RunK.toB ?_)
  refine RunB.sure (dj := 119) true rfl (by rfl) ?_
  refine RunB.one (i := 31) (by kernel_rfl) ?_
  refine RunI.val rfl (Val.pure rfl) rfl rfl rfl (RunK.toB ?_)
  refine RunB.one (i := 32) (by kernel_rfl) ?_
  refine RunI.val rfl (Val.pure rfl) rfl rfl rfl (RunK.toB ?_)
  refine RunB.one (i := 33) (by kernel_rfl) ?_
  refine RunI.val rfl (Val.pure rfl) rfl rfl rfl (RunK.toB ?_)
  refine RunB.one (i := 34) (by kernel_rfl) ?_
  refine RunI.val rfl (Val.pure rfl) rfl rfl rfl (RunK.toB ?_)
  refine RunB.done (by kernel_rfl) ?_
  refine RunE.next ?_
  refine RunC.ret ?_
  exact RunE.retP (.r1 rfl (.tmp rfl)) (by first | rfl | simp)
end Go.Proofs.YtleamcmljcdapabGreatDoor
namespace Go.Eng
open Go Go.RowKit Go.ChangeShapes Go.WideShapes Go.ChangeAt
/-- The plain wrap, with the world's shape and what is listed. -/
theorem handed_shaped_and {H : Type} {enc : TypeId × Value → H} {a : Assume} {C : Checked} {os : Os} {f : FuncId} {fn : Func} {s : ChangeSpec} {conds : List PathCond} {apart fresh handsOn again : Bool} {X : World → Array Value → Prop}
    (hX : ∀ (w w' : World) (args : Array Value), w.heap = w'.heap → X w args → X w' args)
    (own : ownKnob C.prog.godebug = none) (started : os.Started) (noInit : C.prog.inits.idxOf? f = none) (hfn : C.prog.funcs[f]? = some fn)
    (witness : ∃ (w : World) (tape : Tape) (i : Input), w.os = os ∧ (w.forCall tape i).Shaped C.prog ∧ i.vars = [] ∧ Input.okWide C.prog (w.forCall tape i) .any w.heap.size f i ∧
      ((s.pre enc C.prog fn conds apart (w.forCall tape i).memory i.args ∧ X (w.forCall tape i).memory i.args) ∧ sizedMet enc C.prog fn (OpenSpec.ofChange s) apart (w.forCall tape i).memory i.args) ∧ a.holds C.prog (lone (Frame.enter C.prog f i.args .normal) [] (w.forCall tape i)))
    (contract : ∀ (W : World) (base : Nat) (args : Array Value) (ds gs : List (DataW H)) (before : List MemPlace),
      (∀ (j : Nat) t v, fn.params[j]? = some t → args[j]? = some v → Value.okWide C.prog W .any base t v) →
      DataW.Whole enc C.prog fn.params.toList s.vars apart W args.toList ds gs before → W.ShapedOpen C.prog → X W args →
      Calls C.prog f args W fun e W' => ∃ v, e = .returned v ∧ s.post enc C.prog fn apart fresh handsOn again W args v W') :
    ReturnsInHanded a C os f .any (fun w args => (s.pre enc C.prog fn conds apart w args ∧ X w args) ∧ sizedMet enc C.prog fn (OpenSpec.ofChange s) apart w args) (s.post enc C.prog fn apart fresh handsOn again) := by
  refine returnsInHanded_of_calls own started noInit witness ?_
  intro w tape i _ hsh _ hok hpre hholds
  obtain ⟨_, _, _, fn', hfn', _, _, _, _, hval⟩ := hok
  have e : fn' = fn := Option.some.inj (hfn'.symm.trans hfn)
  subst e
  obtain ⟨⟨⟨ds, gs, before, hw, hc⟩, hx⟩, hz⟩ := hpre
  have hw' := DataW.Whole.of_heap (w' := w.forCall tape i) (by rfl) hw
  refine (contract (w.forCall tape i) w.heap.size i.args ds gs before hval hw' hsh (hX _ _ _ (by rfl) hx)).mono fun e W' ⟨v, he, hp⟩ => ?_
  subst he
  exact ChangeSpec.post_blind hp
/-- As law_contract, at one world. -/
theorem law_contractW {H : Type} {enc : TypeId × Value → H} {P : Program} {f : Func} {s : ChangeSpec} {n : Nat} {shs : List Sh} {tb : TypeId} {F : FuncId} (hl : laidOutB P = true) (hsh : f.params.toList.mapM (shapeB P n) = some shs)
    (hp : f.params.toList.all (fun t => P.readableRec t && decide (t < P.types.size)) = true) (hr : f.resultTypes = #[tb]) (hb : P.underlying tb = some .bool) (hvars : s.vars = [])
    (hfn : ∀ ds : List (DataW H), ds.length = f.params.toList.length → s.fn H (ds ++ []) = { results := [.lit (.bool true)], args := ds })
    {W : World} (walk : ∀ vs : List Value, RdAll W shs vs → Calls P F vs.toArray W (Pure (.bool true) W)) {base : Nat} {args : Array Value} {ds gs : List (DataW H)} {before : List MemPlace} (hval : ∀ (j : Nat) t v, f.params[j]? = some t → args[j]? = some v → Value.okWide P W .any base t v)
    (hW : DataW.Whole enc P f.params.toList s.vars false W args.toList ds gs before) :
    Calls P F args W fun e W' => ∃ v, e = .returned v ∧ s.post enc P f false true false false W args v W' := by
  have hW' := hW
  obtain ⟨p, q, hA, hV, rfl, hfz, hnd⟩ := hW
  rw [hvars] at hV
  obtain ⟨rfl, rfl⟩ := trodVars_none hV
  have hrd : RdAll W shs args.toList := rdAll_of hsh (fun j t v hj hv => hval j t v (by simpa using hj) (by simpa using hv)) hA
  have hlen : ds.length = f.params.toList.length := by
    clear hW' hval hrd hfn hp hsh hfz hnd hV
    generalize f.params.toList = ts at hA
    generalize args.toList = vs at hA
    induction ts generalizing vs ds p with
    | nil => obtain ⟨_, rfl, _⟩ := trodAll_nil hA; rfl
    | cons t ts ih =>
      obtain ⟨v, vs', d, ds', p, q, rfl, rfl, rfl, h0, hr⟩ := trodAll_cons hA
      simp [ih _ _ hr]
  refine (walk args.toList hrd).mono fun e W' ⟨he, hm⟩ => ?_
  subst he
  have bel := hm.below
  refine ⟨_, rfl, ds, [], p ++ [], [], p, [], hW', ?_, ?_, ?_, bel.frame _, fun h => by cases h⟩
  · rw [hfn ds hlen, hr]
    exact trodAll_mk1 (shut_bool hb _)
  · rw [hfn ds hlen]
    exact trodAll_below hl bel hp hA
  · rw [hvars, hfn ds hlen]
    rfl
/-- A listed error: the variable holds an interface value. -/
theorem laid_iface {P : Program} {n nm : String} {d : DataW Unit} {r : List (String × DataW Unit)} {W : World} {g : Nat} {ti : TypeId} {ms : Array (String × TypeId)}
    (h : laidMet P ((n, .iface nm d) :: r) W) (hg : P.globalNamed n = some g) (ht : (P.globals[g]?).map (·.type) = some ti) (hi : P.underlying ti = some (.interface ms)) : ∃ te pe, W.cell? ⟨g, 0, none⟩ = some (.iface te pe) := by
  obtain ⟨ps, ⟨g0, t0, cs0, f0, p0, q0, hg0, ht0, hv0, hd0, _, e0⟩, _, hrows⟩ := h
  obtain rfl := Option.some.inj (hg.symm.trans hg0)
  obtain rfl := Option.some.inj (ht.symm.trans ht0)
  obtain ⟨f', u, v, hcs, _, _⟩ := iface_of_trod hi hd0
  have h1 := World.var?_cell hg0 hv0 0
  have e : cs0 = #[.iface u v] := by
    obtain ⟨l⟩ := cs0
    simp only at hcs
    rw [hcs]
  rw [e] at h1
  exact ⟨u, v, by simpa using h1⟩
end Go.Eng
namespace Go.Proofs.YtleamcmljcdapabGreatDoor
open Go Go.Eng Go.Bk Go.RowKit

abbrev laidL : List (String × DataW Unit) := [("math/bits.deBruijn32tab", Rows.laid_math_bits_deBruijn32tab), ("math/bits.deBruijn64tab", Rows.laid_math_bits_deBruijn64tab), ("internal/strconv.uint64pow10", Rows.laid_internal_strconv_uint64pow10), ("unicode/utf8.acceptRanges", Rows.laid_unicode_utf8_acceptRanges), ("strconv.ErrRange", Rows.laid_strconv_ErrRange), ("strconv.ErrSyntax", Rows.laid_strconv_ErrSyntax), ("unicode/utf8.first", Rows.laid_unicode_utf8_first)]
theorem gMax : ((begin Tryz.prog (fun _ _ => 0) default).world.heap[0]?).bind Obj.row? = some (#[.int .i64 0], 3) := by kernel_rfl
theorem lw_of {W : World} (hsh : W.ShapedOpen Tryz.prog) (hL : laidMetH Tryz.prog laidL W) : Lw Tryz.prog W := by
  rw [MakeChecks.laidMetH_plain _ _ _ (by kernel_rfl)] at hL
  have h3 := hL.tail.tail
  have h5 := h3.tail.tail
  obtain ⟨te, pe, h1⟩ := laid_iface h5 (g := 3) (by kernel_rfl) (by kernel_rfl) Tryz.underlying141
  obtain ⟨te2, pe2, h2⟩ := laid_iface h5.tail (g := 2) (by kernel_rfl) (by kernel_rfl) Tryz.underlying141
  exact ⟨cell_of_shapedOpen_int hsh (by decide) gMax rfl (by kernel_rfl) (by kernel_rfl) Tryz.underlying3,
    Lib.tabIs_of_head (g := 1) (t := 235) (n := 20) (e := 221) (by kernel_rfl) (by kernel_rfl) (by kernel_rfl) (by kernel_rfl) (by kernel_rfl) (by kernel_rfl) h3,
    ⟨_, h2, .inr ⟨_, _, rfl⟩⟩, ⟨_, h1, .inr ⟨_, _, rfl⟩⟩⟩
theorem laid_fits (os : Os) : (World.holding Tryz.prog os ⟨#[], #[], []⟩).layFits Tryz.prog laidL [] = true := by kernel_rfl
theorem laid_ifaces (os : Os) : (World.holding Tryz.prog os ⟨#[], #[], []⟩).layIfaces Tryz.prog laidL (World.laidAll Tryz.prog os laidL) = true := by kernel_rfl
end Go.Proofs.YtleamcmljcdapabGreatDoor
namespace Go.Bk
open Go Go.Eng Go.RowKit
/-- The bytes that are written, if any. -/
def wpS (p : Ps) : Str := if printsX p = true then psS p else []
theorem wpS_ok {p : Ps} (h : printsX p = true) : wpS p = psS p := if_pos h
theorem wpS_no {p : Ps} (h : printsX p = false) : wpS p = [] := if_neg (by simp [h])
abbrev wpE (p : Ps) : Int := if printsX p = true then 0 else 1
end Go.Bk
namespace Go.Proofs.YtleamcmljcdapabGreatDoor
open Go Go.Eng Go.Bk Go.RowKit

theorem writePrints_any (p : PsA) (hl : p.cards.l.length ≤ 10000) (W : World) (hP : p.cards.ok Pt.cells 5 W) : Calls Tryz.prog 19 #[p.v] W (News (fun z : { y : Eng.Own // OwnOk 1 y (wpS p.pl).length (byc (wpS p.pl)) } => .tuple #[ownV z.1 (wpS p.pl).length, .int .i64 (wpE p.pl)]) (fun z => ownB 5 z.1 (byc (wpS p.pl)) ++ []) W) := by
  suffices h1 : Calls Tryz.prog 19 #[p.v] W (Grow W [] (fun y : Eng.Own => .tuple #[ownV y (wpS p.pl).length, .int .i64 (wpE p.pl)]) (fun y => ownB 5 y (byc (wpS p.pl)) ++ []) (fun y => OwnOk 1 y (wpS p.pl).length (byc (wpS p.pl)))) from grow_news h1
  cases h : printsX p.pl with
  | true =>
    have e : wpE p.pl = 0 := if_pos h
    rw [e, wpS_ok h]
    exact writePrints_ok p W hP h
  | false =>
    have e : wpE p.pl = 1 := if_neg (by simp [h])
    rw [e, wpS_no h]
    refine calls_mono (writePrints_no p hl W hP h) ?_
    rintro e w' ⟨rfl, hm⟩
    exact ⟨none, ol_nil (α := UInt8) (f := byC) (sz := 1), rfl, hm⟩
theorem wPX_calls (x : PsX) (h : PsXOk x) (hl : x.cards.2.length ≤ 10000) (tl : Blks) (W0 w : World) (hm : Mem W0 [] (ptB x.cards ++ tl) w) : Calls Tryz.prog 19 #[.agg x.cells.toArray] w (News (fun z : { y : Eng.Own // OwnOk 1 y (wpS x.pl).length (byc (wpS x.pl)) } => .tuple #[ownV z.1 (wpS x.pl).length, .int .i64 (wpE x.pl)]) (fun z => ownB 5 z.1 (byc (wpS x.pl)) ++ []) w) := by
  have h1 := writePrints_any x.toA hl w (own_sl (f := Pt.cells) (e := 69) (fun _ => rfl) (by decide) h (fun b o hb => (hm.newd b o (List.mem_append_left _ hb)).2))
  have e : x.toA.v = .agg x.cells.toArray := by
    show Value.agg [(OL.sa x.cards).v, _, _, _, _].toArray = _
    rw [OL.sa_v h]
    rfl
  rw [e] at h1
  exact h1
theorem zeroP_ok (w : World) : zeroPX.toA.cards.ok Pt.cells 5 w := own_sl (f := Pt.cells) (e := 69) (sz := 5) (x := none) (l := []) (k := 0) (fun _ => rfl) (by decide) (ol_nil (α := Pt) (f := Pt.cells) (sz := 5)) (fun b o hb => by cases hb)
end Go.Proofs.YtleamcmljcdapabGreatDoor
namespace Go.Bk
open Go Go.Eng Go.RowKit
theorem rd_str {w : World} {cs : List Value} (h : Rd w .str cs) : ∃ s : Str, cs = [.string (bs s)] ∧ True := by
  cases h with
  | @str s _ => exact ⟨s.data.toList, by simp [bs], trivial⟩
theorem rd_byte {w : World} {cs : List Value} (h : Rd w (.int .u8) cs) : ∃ b : UInt8, cs = byC b ∧ True := by
  cases h with
  | @int _ n h =>
    have h2 : 0 ≤ n ∧ n ≤ 255 := by
      have h3 : (decide (IntKind.u8.min ≤ n) && decide (n ≤ IntKind.u8.max)) = true := h
      rw [Bool.and_eq_true, decide_eq_true_eq, decide_eq_true_eq] at h3
      exact h3
    refine ⟨UInt8.ofNat n.toNat, ?_, trivial⟩
    show [Value.int .u8 n] = [Value.int .u8 _]
    congr 2
    simp only [UInt8.toNat_ofNat']
    omega
theorem rowsH_of {α : Type} {f : α → List Value} {p : α → Prop} : ∀ {xs : List (List Value)}, (∀ x ∈ xs, ∃ a, x = f a ∧ p a) → ∃ l : List α, xs = l.map f ∧ ∀ a ∈ l, p a
  | [], _ => ⟨[], rfl, fun a h => by cases h⟩
  | x :: xs, h => by
    obtain ⟨a, rfl, ha⟩ := h x (by simp)
    obtain ⟨l, rfl, hl⟩ := rowsH_of (xs := xs) (fun y hy => h y (List.mem_cons_of_mem _ hy))
    exact ⟨a :: l, rfl, fun b hb => by rcases List.mem_cons.1 hb with rfl | hb; exact ha; exact hl b hb⟩
/-- What is known of a slice that comes in. -/
structure SaIn {α : Type} (f : α → List Value) (sz : Nat) (p : α → Prop) (w : World) (s : SA α) : Prop where
  ok : s.ok f sz w
  each : ∀ a ∈ s.l, p a
  cap : s.l.length ≤ s.c
  few : s.c ≤ maxLen
  nq : s.q = none → s.l.length = 0 ∧ s.c = 0
theorem rd_sa {α : Type} {f : α → List Value} {p : α → Prop} {w : World} {e : Sh} (hx : ∀ {x}, Rd w e x → ∃ a, x = f a ∧ p a) {cs : List Value} (h : Rd w (.sl e) cs) : ∃ s : SA α, cs = [s.v] ∧ SaIn f e.size p w s := by
  cases h with
  | slNil => exact ⟨⟨[], none, 0, 0, 0⟩, rfl, ⟨Sl.emp, (fun a h => by cases h), Nat.le_refl _, Nat.zero_le _, fun _ => ⟨rfl, rfl⟩⟩⟩
  | sl hs hl hc h =>
    obtain ⟨l, rfl, hl2⟩ := rowsH_of (f := f) (p := p) (fun x hx' => hx (h x hx'))
    rw [List.length_map] at hl
    exact ⟨⟨l, some _, _, _, _⟩, by rw [List.length_map]; rfl, ⟨hs, hl2, hl, hc, fun h => by cases h⟩⟩
theorem rd_by {w : World} {cs : List Value} (h : Rd w (.sl (.int .u8)) cs) : ∃ s : SA UInt8, cs = [s.v] ∧ SaIn byC 1 (fun _ => True) w s := rd_sa rd_byte h
end Go.Bk
namespace Go.Proofs.YtleamcmljcdapabGreatDoor
open Go Go.Eng
theorem boolB_4 : boolB Tryz.prog 4 = true := by kernel_rfl
theorem ent_8 : Enters Tryz.prog 8 := enters_of Tryz.func8 (by kernel_rfl) rfl
theorem sl_51 : slB Tryz.prog 51 = some (28, 1) := by kernel_rfl
end Go.Proofs.YtleamcmljcdapabGreatDoor
namespace Go.Bk
open Go Go.Eng Go.RowKit
def Said (s : Str) (e : Int) : Prop := (e = 3 ↔ 4096 < s.length) ∧ (e = 0 ∨ e = 3 ∨ e = 8)
def Rdd {β : Type} (s : Str) (ok : Bool) (t : Str) (x z0 : β) (e : Int) : Prop := (4096 < s.length ∧ e = 3 ∧ x = z0) ∨ (¬ 4096 < s.length ∧ e = 8 ∧ x = z0) ∨ (¬ 4096 < s.length ∧ e = 0 ∧ ok = true ∧ t = s)
theorem rd_say {α β : Type} {step : α → List Str → Option α} {z : α} {ok : α → Bool} {text : α → Str} {s : Str} {pl : β → α} {okp : β → Prop} {z0 x : β} {e : Int} (hp : ∀ x, ok x = true → parseX step z (text x) = some x) (hz : okp z0)
    (h : RdX (readX step z ok text s) pl okp z0 (x, e)) : okp x ∧ Rdd s (ok (pl x)) (text (pl x)) x z0 e := by
  rcases h with ⟨t, h1, h2, h3, h4⟩ | ⟨k, h1, h2⟩
  · obtain ⟨h5, h6, h7⟩ := readX_inv h1
    dsimp only at h2 h3 h4
    subst h2
    exact ⟨h4, .inr (.inr ⟨h7, h3, h5, h6⟩)⟩
  · cases h2
    rcases readX_err hp h1 with ⟨h3, h4⟩ | ⟨h3, h4, _⟩
    · exact ⟨hz, .inl ⟨h3, h4, rfl⟩⟩
    · exact ⟨hz, .inr (.inl ⟨h3, h4, rfl⟩)⟩
theorem body_er {o : Str} {k : Int} (h : bodyP o = .error k) : k = 8 := by
  unfold bodyP at h
  split at h
  · cases h; rfl
  · split at h
    · cases h; rfl
    · split at h
      · split at h <;> cases h
        rfl
      · cases h; rfl
theorem rdp_say {s : Str} {x : PsX} {e : Int} (h : RdX (readPs s) PsX.pl PsXOk zeroPX (x, e)) : PsXOk x ∧ ((4096 < s.length ∧ e = 3 ∧ x = zeroPX) ∨ (¬ 4096 < s.length ∧ (e = 8 ∨ e = 11) ∧ x = zeroPX) ∨ (¬ 4096 < s.length ∧ e = 0 ∧ printsX x.pl = true ∧ psS x.pl = s)) := by
  rcases h with ⟨t, h1, h2, h3, h4⟩ | ⟨k, h1, h2⟩
  · obtain ⟨h5, h6⟩ := readPs_inv h1
    dsimp only at h2 h3 h4
    subst h2
    have h8 : ¬ 4096 < s.length := fun h7 => (by unfold readPs at h1; rw [if_pos h7] at h1; cases h1)
    exact ⟨h4, .inr (.inr ⟨h8, h3, h5, h6⟩)⟩
  · cases h2
    refine ⟨ol_nil, ?_⟩
    by_cases h7 : 4096 < s.length
    · unfold readPs at h1
      rw [if_pos h7] at h1
      cases h1
      exact .inl ⟨h7, rfl, rfl⟩
    · refine .inr (.inl ⟨h7, ?_, rfl⟩)
      unfold readPs at h1
      rw [if_neg h7] at h1
      split at h1
      · cases h1; exact .inr rfl
      · split at h1
        · refine .inl ?_
          exact body_er h1
        · cases h1; exact .inr rfl
theorem rdp_zero {s : Str} {x : PsX} {e : Int} (h : (4096 < s.length ∧ e = 3 ∧ x = zeroPX) ∨ (¬ 4096 < s.length ∧ (e = 8 ∨ e = 11) ∧ x = zeroPX) ∨ (¬ 4096 < s.length ∧ e = 0 ∧ printsX x.pl = true ∧ psS x.pl = s)) :
    (e = 0 → printsX x.pl = true ∧ psS x.pl = s) ∧ (e ≠ 0 → x = zeroPX) ∧ x.cards.2.length ≤ 10000 := by
  rcases h with ⟨_, rfl, rfl⟩ | ⟨_, rfl | rfl, rfl⟩ | ⟨_, rfl, h2, h3⟩
  · exact ⟨fun h => absurd h (by decide), fun _ => rfl, Nat.zero_le _⟩
  · exact ⟨fun h => absurd h (by decide), fun _ => rfl, Nat.zero_le _⟩
  · exact ⟨fun h => absurd h (by decide), fun _ => rfl, Nat.zero_le _⟩
  · refine ⟨fun _ => ⟨h2, h3⟩, fun h => absurd rfl h, ?_⟩
    have h4 := (prints_pl h2).1
    have h5 : x.pl.cards.length = x.cards.2.length := rfl
    omega
theorem tour_first (t : Tr) : (tourS t).head? = some 116 := by
  unfold tourS lineS Lib.join
  simp [wTour, List.intercalate]
theorem cab_first (c : Cb) : (cabS c).head? = some 99 := by
  unfold cabS lineS Lib.join
  simp [wCab, List.intercalate]
theorem roy_first (r : Ry) : (royalS r).head? = some 114 := by
  unfold royalS lineS Lib.join
  simp [wRoyal, List.intercalate]
/-- How many of three are read. -/
def okN (l : List Int) : Nat := (l.filter (fun e => e == 0)).length
theorem okN_take {l : List Int} {k : Nat} : okN (l.take k) ≤ k := by
  unfold okN
  exact Nat.le_trans (List.length_filter_le _ _) (List.length_take_le ..)
theorem okN_s {l : List Int} {k : Nat} (h : k < l.length) : okN (l.take (k + 1)) = okN (l.take k) + if l[k] = 0 then 1 else 0 := by
  unfold okN
  rw [List.take_add_one, List.filter_append, List.length_append, List.getElem?_eq_getElem h]
  by_cases h1 : l[k] = 0 <;> simp [h1]
theorem Rdd.said {β : Type} {s t : Str} {ok : Bool} {x z0 : β} {e : Int} (h : Rdd s ok t x z0 e) : Said s e := by
  rcases h with ⟨h1, rfl, _⟩ | ⟨h1, rfl, _⟩ | ⟨h1, rfl, _⟩
  · exact ⟨⟨fun _ => h1, fun _ => rfl⟩, .inr (.inl rfl)⟩
  · exact ⟨⟨fun h => absurd h (by decide), fun h => absurd h h1⟩, .inr (.inr rfl)⟩
  · exact ⟨⟨fun h => absurd h (by decide), fun h => absurd h h1⟩, .inl rfl⟩
theorem Rdd.zero {β : Type} {s t : Str} {ok : Bool} {x z0 : β} {e : Int} (h : Rdd s ok t x z0 e) (he : e = 0) : ok = true ∧ t = s := by
  rcases h with ⟨h1, rfl, _⟩ | ⟨h1, rfl, _⟩ | ⟨h1, rfl, h2⟩
  · cases he
  · cases he
  · exact h2
theorem Rdd.not {β : Type} {s t : Str} {ok : Bool} {x z0 : β} {e : Int} (h : Rdd s ok t x z0 e) (he : e ≠ 0) : x = z0 := by
  rcases h with ⟨h1, rfl, h2⟩ | ⟨h1, rfl, h2⟩ | ⟨h1, rfl, h2⟩
  · exact h2
  · exact h2
  · exact absurd rfl he
theorem three_said {s : Str} {a b c : Int} (ha : Said s a) (hb : Said s b) (hc : Said s c) : ∀ (k : Nat) (h : k < [a, b, c].length), Said s [a, b, c][k]
  | 0, _ => ha
  | 1, _ => hb
  | 2, _ => hc
  | k + 3, h => absurd h (by simp)
theorem three_many {s : Str} {t : Tr} {c : Cb} {r : Ry} {e f g : Int} (he : e = 0 → tourS t = s) (hf : f = 0 → cabS c = s) (hg : g = 0 → royalS r = s) : okN [e, f, g] ≤ 1 := by
  have h1 := tour_first t
  have h2 := cab_first c
  have h3 := roy_first r
  unfold okN
  by_cases a : e = 0
  · rw [he a] at h1
    by_cases b : f = 0
    · rw [hf b, h1] at h2; cases h2
    · by_cases d : g = 0
      · rw [hg d, h1] at h3; cases h3
      · simp [a, b, d]
  · by_cases b : f = 0
    · rw [hf b] at h2
      by_cases d : g = 0
      · rw [hg d, h2] at h3; cases h3
      · simp [a, b, d]
    · by_cases d : g = 0 <;> simp [a, b, d]
end Go.Bk
namespace Go.Proofs.YtleamcmljcdapabGreatDoor
open Go Go.Eng Go.Bk Go.RowKit

theorem zeroT_ok (w : World) : TrOk w zeroTX.toA := trX_ok zeroTX_ok (W0 := w) (tl := []) (Mem.refl w)
theorem zeroC_ok (w : World) : CbOk w zeroCX.toA := cbX_ok zeroCX_ok (W0 := w) (tl := []) (Mem.refl w)
theorem zeroR_ok (w : World) : RyOk w zeroRX.toA := ryX_ok zeroRX_ok (W0 := w) (tl := []) (Mem.refl w)
theorem cells_trX {n : Nat} {x : TrX} (h : TrXOk n x) : x.toA.v = .agg x.cells.toArray := by unfold TrA.v; rw [h.cells]
theorem cells_cbX {n : Nat} {x : CbX} (h : CbXOk n x) : x.toA.v = .agg x.cells.toArray := by unfold CbA.v; rw [h.cells]
theorem cells_ryX {n : Nat} {x : RyX} (h : RyXOk n x) : x.toA.v = .agg x.cells.toArray := by unfold RyA.v; rw [h.cells]
theorem wTX_calls (x : TrX) (h : TrXOk 10000 x) (tl : Blks) (W0 w : World) (hm : Mem W0 [] (trB x ++ tl) w) (hL : Lw Tryz.prog w) : Calls Tryz.prog 13 #[.agg x.cells.toArray] w (Pure (writeV (tourX x.pl) (tourS x.pl)) w) := by
  have h1 := WriteTour_calls x.toA (h.sm (Nat.le_refl _)) w hL (trX_ok h hm)
  rw [TrX.toA_pl, cells_trX h] at h1
  exact h1
theorem wCX_calls (x : CbX) (h : CbXOk 10000 x) (tl : Blks) (W0 w : World) (hm : Mem W0 [] (cbB x ++ tl) w) (hL : Lw Tryz.prog w) : Calls Tryz.prog 15 #[.agg x.cells.toArray] w (Pure (writeV (cabX x.pl) (cabS x.pl)) w) := by
  have h1 := WriteCabinet_calls x.toA (h.sm (Nat.le_refl _)) w hL (cbX_ok h hm)
  rw [CbX.toA_pl, cells_cbX h] at h1
  exact h1
theorem wRX_calls (x : RyX) (h : RyXOk 10000 x) (tl : Blks) (W0 w : World) (hm : Mem W0 [] (ryB x ++ tl) w) (hL : Lw Tryz.prog w) : Calls Tryz.prog 17 #[.agg x.cells.toArray] w (Pure (writeV (royalX x.pl) (royalS x.pl)) w) := by
  have h1 := WriteRoyal_calls x.toA (h.sm (Nat.le_refl _)) w hL (ryX_ok h hm)
  rw [RyX.toA_pl, cells_ryX h] at h1
  exact h1
set_option maxHeartbeats 2000000 in
theorem again_calls (s : Str) (x : SA UInt8) (W : World) (hL : Lw Tryz.prog W) (hS : x.ok byC 1 W) : Calls Tryz.prog 3 #[.string (bs s), x.v] W (Pure (.bool true) W) := by
  refine calls_start Tryz.func3 rfl rfl ?_
  refine st ?_
  refine lv (Val.lenS rfl und_9) ?_
  refine RunL.orPart (dj := 27) (dp := 31) 4 rfl (fun g27 => by
    have g27' := g27
    try simp only [nH] at g27'
    refine st ?_
    refine RunL.val (Val.len_sl rfl sl_22) rfl rfl rfl ?_
    refine sv ?_
    exact RunL.segEnd (Sub.cons rfl (Sub.skip rfl (Sub.skip rfl (Sub.skip rfl (Sub.skip rfl (Sub.same rfl (by rw [g27]) (Sub.refl _))))))) (List.Sublist.refl _)
  ) (fun g27 => by
    have g27' := g27
    try simp only [nH] at g27'
    iterate 3 refine RunL.no rfl rfl rfl ?_
    refine sv ?_
    exact RunL.segEnd (Sub.cons rfl (Sub.skip rfl (Sub.skip rfl (Sub.skip rfl (Sub.skip rfl (Sub.same rfl (by rw [g27]) (Sub.refl _))))))) (List.Sublist.refl _)
  ) ?_
  refine st ?_
  refine cn rfl ?_ ?_
  ·intro c0'
   refine st ?_
   refine RunL.callP (isCall_func rfl ent_8) rfl rfl rfl (fun w hm => alive_calls w (hL.mono hm)) ?_
   refine st ?_
   refine RunC.ret ?_
   refine RunE.pass_ret ?_
   exact RunE.retP (.r1 rfl (.tmp rfl)) (by first | rfl | simp)
  intro c0'
  skip
  refine st ?_
  refine RunL.callNT (isCall_func rfl ent_9) rfl rfl rfl (fun w hm => grow_news (ReadTour_calls s w (hL.mono hm) (by omega))) (fun z35 => ?_)
  obtain ⟨⟨x35, e35⟩, h35⟩ := z35
  obtain ⟨o35, f35⟩ := rd_say parse_tour (zeroTX_ok.le (by decide)) h35
  dsimp only
  refine st ?_
  refine RunL.new (New.alloc zero_27) rfl rfl rfl (fun b5 => ?_)
  refine RunL.sto (Sto.store (cs := zsrdT) (cs' := x35.cells) rfl rfl .here ty_27 rfl (paste_over rfl (one_trX _))) rfl rfl ?_
  refine st ?_
  refine RunL.callNA [(b5, _)] _ rfl (isCall_func rfl ent_10) rfl rfl rfl (fun w hm => grow_news (ReadCabinet_calls s w (hL.mono hm) (by omega))) (fun z40 => ?_)
  obtain ⟨⟨x40, e40⟩, h40⟩ := z40
  obtain ⟨o40, f40⟩ := rd_say parse_cab (zeroCX_ok.le (by decide)) h40
  dsimp only
  refine st ?_
  refine RunL.new (New.alloc zero_34) rfl rfl rfl (fun b7 => ?_)
  refine RunL.sto (Sto.store (cs := zsrdC) (cs' := x40.cells) rfl rfl .here ty_34 rfl (paste_over rfl (one_cbX _))) rfl rfl ?_
  refine st ?_
  refine RunL.callNA [(b7, _), (b5, _)] _ rfl (isCall_func rfl ent_11) rfl rfl rfl (fun w hm => grow_news (ReadRoyal_calls s w (hL.mono hm) (by omega))) (fun z45 => ?_)
  obtain ⟨⟨x45, e45⟩, h45⟩ := z45
  obtain ⟨o45, f45⟩ := rd_say parse_roy (zeroRX_ok.le (by decide)) h45
  dsimp only
  refine st ?_
  refine RunL.new (New.alloc zero_41) rfl rfl rfl (fun b9 => ?_)
  refine RunL.sto (Sto.store (cs := zsrdR) (cs' := x45.cells) rfl rfl .here ty_41 rfl (paste_over rfl (one_ryX _))) rfl rfl ?_
  refine st ?_
  refine RunL.callNA [(b9, _), (b7, _), (b5, _)] _ rfl (isCall_func rfl ent_12) rfl rfl rfl (fun w hm => grow_news (ReadPrints_calls x.l x.q x.b x.o x.c w (SA.ok.mono0 hS (by decide) hm) (by omega))) (fun z50 => ?_)
  obtain ⟨⟨x50, e50⟩, h50⟩ := z50
  obtain ⟨o50, f50⟩ := rdp_say h50
  obtain ⟨hz50, hn50, hl50⟩ := rdp_zero f50
  dsimp only
  refine st ?_
  refine RunL.new (New.alloc zero_48) rfl rfl rfl (fun b11 => ?_)
  refine RunL.sto (Sto.store (cs := zeroPX.cells) (cs' := x50.cells) rfl rfl .here ty_48 rfl (paste_over rfl (one_psX _))) rfl rfl ?_
  refine st ?_
  refine RunL.new (New.buildSlice (parts := [(0, .tmp 53), (1, .tmp 54), (2, .tmp 55)]) rfl sl_51 zero_28 rfl rfl rfl rfl) rfl rfl rfl (fun b56 => ?_)
  refine lv (Val.len_sl rfl sl_51) ?_
  refine RunC.loopK (n0 := (b5, _) :: (b7, _) :: (b9, _) :: (b11, _) :: (b56, _) :: (trB x35 ++ (cbB x40 ++ (ryB x45 ++ (ptB x50.cards ++ []))))) (3) (fun k q => (58, .int .i64 (k : Int)) :: (13, .int .i64 ((okN ([e35, e40, e45].take k) : Nat) : Int)) :: q) (fun _ => _) (fun _ => []) (fun _ => True) trivial rfl (Sub.consE (t := 58) rfl rfl (Sub.consE (t := 13) rfl rfl (Sub.cons (t := 0) rfl (Sub.cons (t := 1) rfl (Sub.cons (t := 5) rfl (Sub.cons (t := 6) rfl (Sub.cons (t := 7) rfl (Sub.cons (t := 8) rfl (Sub.cons (t := 9) rfl (Sub.cons (t := 10) rfl (Sub.cons (t := 11) rfl (Sub.cons (t := 12) rfl (Sub.cons (t := 56) rfl (Sub.cons (t := 57) rfl (Sub.nil _))))))))))))))) (.cons (.there (.there (.there (.there .here)))) rfl (.cons (.there (.there (.there .here))) rfl (.cons (.there (.there .here)) rfl (.cons (.there .here) rfl (.cons .here rfl (Pick.cnt fun x => by simp only [nC]; omega)))))) ?_
  intro k kN kI
  clear kI
  refine st ?_
  refine cn rfl ?_ ?_
  ·intro c1'
   have hk : k < [e35, e40, e45].length := (by show k < 3; omega)
   obtain ⟨el, hel⟩ : ∃ el, [e35, e40, e45][k] = el := ⟨_, rfl⟩
   have hsa := three_said (s := s) f35.said f40.said f45.said k hk
   rw [hel] at hsa
   obtain ⟨hsa1, hsa2⟩ := hsa
   have hst := okN_s hk
   have hko := okN_take (l := [e35, e40, e45]) (k := k)
   rw [hel] at hst
   refine st ?_
   refine lv (Val.indexAddr_sl rfl rfl sl_51 (by omega) (by omega)) ?_
   refine lv (Val.load_gen rfl (fun w hm => (cO_ok (f := intC) (c := 3) [e35, e40, e45] (hm.at (.tail _ (.tail _ (.tail _ (.tail _ (.head _)))))) (fun _ => rfl)).loadM1 (by decide) (Mem.refl w) (by simp) ty_28 hk (v := .int .i64 el) (by rw [hel]; rfl))) ?_
   refine lv (Val.lenS rfl und_9) ?_
   refine lv (Val.neq_bool rfl rfl boolB_4) ?_
   refine RunL.orPart (dj := 68) (dp := 79) 11 rfl (fun g68 => by
     have g68' := g68
     try simp only [nH] at g68'
     refine st ?_
     refine RunL.andPart (dj := 71) (dp := 74) 3 rfl (fun g71 => by
       have g71' := g71
       try simp only [nH] at g71'
       refine sv ?_
       exact RunL.segEnd (Sub.cons rfl (Sub.skip rfl (Sub.skip rfl (Sub.skip rfl (Sub.same rfl (by rw [g71]) (Sub.refl _)))))) (List.Sublist.refl _)
     ) (fun g71 => by
       have g71' := g71
       try simp only [nH] at g71'
       refine RunL.no rfl rfl rfl ?_
       refine RunL.no rfl rfl rfl ?_
       refine sv ?_
       exact RunL.segEnd (Sub.cons rfl (Sub.skip rfl (Sub.skip rfl (Sub.skip rfl (Sub.same rfl (by rw [g71]) (Sub.refl _)))))) (List.Sublist.refl _)
     ) ?_
     refine st ?_
     refine RunL.andPart (dj := 75) (dp := 78) 3 rfl (fun g75 => by
       have g75' := g75
       try simp only [nH] at g75'
       refine sv ?_
       exact RunL.segEnd (Sub.cons rfl (Sub.skip rfl (Sub.skip rfl (Sub.skip rfl (Sub.same rfl (by rw [g75]) (Sub.refl _)))))) (List.Sublist.refl _)
     ) (fun g75 => by
       have g75' := g75
       try simp only [nH] at g75'
       refine RunL.no rfl rfl rfl ?_
       refine RunL.no rfl rfl rfl ?_
       refine sv ?_
       exact RunL.segEnd (Sub.cons rfl (Sub.skip rfl (Sub.skip rfl (Sub.skip rfl (Sub.same rfl (by rw [g75]) (Sub.refl _)))))) (List.Sublist.refl _)
     ) ?_
     refine sv ?_
     exact RunL.segEnd (Sub.cons rfl (Sub.skip rfl (Sub.skip rfl (Sub.skip rfl (Sub.skip rfl (Sub.skip rfl (Sub.skip rfl (Sub.skip rfl (Sub.same rfl (by rw [g68]) (Sub.refl _)))))))))) (List.Sublist.refl _)
   ) (fun g68 => by
     have g68' := g68
     try simp only [nH] at g68'
     iterate 10 refine RunL.no rfl rfl rfl ?_
     refine sv ?_
     exact RunL.segEnd (Sub.cons rfl (Sub.skip rfl (Sub.skip rfl (Sub.skip rfl (Sub.skip rfl (Sub.skip rfl (Sub.skip rfl (Sub.skip rfl (Sub.skip rfl (Sub.skip rfl (Sub.skip rfl (Sub.skip rfl (Sub.same rfl (by rw [g68]) (Sub.refl _)))))))))))))) (List.Sublist.refl _)
   ) ?_
   refine st ?_
   refine RunC.cond rfl (fun h => absurd h (by intro h9; simp only [nH] at h9; rcases hsa2 with rfl | rfl | rfl <;> simp at h9 <;> omega)) ?_
   intro c2
   clear c2
   refine st ?_
   refine cn rfl ?_ ?_
   ·intro c3'
    refine st ?_
    refine lv (Val.add rfl rfl (IntWalk.i64_in _ ⟨by omega, by omega⟩)) ?_
    refine lv (Val.add rfl rfl (IntWalk.i64_in _ ⟨by omega, by omega⟩)) ?_
    exact RunE.round (by omega) trivial rfl (Sub.consE (t := 58) rfl rfl (Sub.consE (t := 13) rfl (by rw [hst]; simp [*]) (Sub.cons (t := 0) rfl (Sub.cons (t := 1) rfl (Sub.cons (t := 5) rfl (Sub.cons (t := 6) rfl (Sub.cons (t := 7) rfl (Sub.cons (t := 8) rfl (Sub.cons (t := 9) rfl (Sub.cons (t := 10) rfl (Sub.cons (t := 11) rfl (Sub.cons (t := 12) rfl (Sub.cons (t := 56) rfl (Sub.cons (t := 57) rfl (Sub.nil _))))))))))))))) (.cons .here rfl (.cons .here rfl (.cons .here rfl (.cons .here rfl (.cons .here rfl (Pick.refl _))))))
   intro c3'
   refine st ?_
   refine lv (Val.add rfl rfl (IntWalk.i64_in _ ⟨by omega, by omega⟩)) ?_
   exact RunE.round (by omega) trivial rfl (Sub.consE (t := 58) rfl rfl (Sub.consE (t := 13) rfl (by rw [hst]; simp [*]) (Sub.cons (t := 0) rfl (Sub.cons (t := 1) rfl (Sub.cons (t := 5) rfl (Sub.cons (t := 6) rfl (Sub.cons (t := 7) rfl (Sub.cons (t := 8) rfl (Sub.cons (t := 9) rfl (Sub.cons (t := 10) rfl (Sub.cons (t := 11) rfl (Sub.cons (t := 12) rfl (Sub.cons (t := 56) rfl (Sub.cons (t := 57) rfl (Sub.nil _))))))))))))))) (.cons .here rfl (.cons .here rfl (.cons .here rfl (.cons .here rfl (.cons .here rfl (Pick.refl _))))))
  intro c1'
  obtain rfl : k = 3 := by omega
  have hmany : okN ([e35, e40, e45].take 3) ≤ 1 := three_many (fun h => (f35.zero h).2) (fun h => (f40.zero h).2) (fun h => (f45.zero h).2)
  refine RunC.exit ?_
  refine RunE.pass_exit ?_
  refine RunE.pass_exit ?_
  refine RunE.block_here ?_
  refine st ?_
  refine RunL.orPart (dj := 87) (dp := 94) 7 rfl (fun g87 => by
    have g87' := g87
    try simp only [nH] at g87'
    refine st ?_
    refine lv (Val.len_sl rfl sl_22) ?_
    refine RunL.val (Val.neq_bool rfl rfl boolB_4) rfl rfl rfl ?_
    refine sv ?_
    exact RunL.segEnd (Sub.cons rfl (Sub.skip rfl (Sub.skip rfl (Sub.skip rfl (Sub.skip rfl (Sub.skip rfl (Sub.skip rfl (Sub.skip rfl (Sub.same rfl (by rw [g87]) (Sub.refl _)))))))))) (List.Sublist.refl _)
  ) (fun g87 => by
    have g87' := g87
    try simp only [nH] at g87'
    iterate 6 refine RunL.no rfl rfl rfl ?_
    refine sv ?_
    exact RunL.segEnd (Sub.cons rfl (Sub.skip rfl (Sub.skip rfl (Sub.skip rfl (Sub.skip rfl (Sub.skip rfl (Sub.skip rfl (Sub.skip rfl (Sub.same rfl (by rw [g87]) (Sub.refl _)))))))))) (List.Sublist.refl _)
  ) ?_
  refine st ?_
  refine RunL.orPart (dj := 95) (dp := 110) 15 rfl (fun g95 => by
    have g95' := g95
    try simp only [nH] at g95'
    refine st ?_
    refine RunL.andPart (dj := 98) (dp := 101) 3 rfl (fun g98 => by
      have g98' := g98
      try simp only [nH] at g98'
      refine sv ?_
      exact RunL.segEnd (Sub.cons rfl (Sub.skip rfl (Sub.skip rfl (Sub.skip rfl (Sub.same rfl (by rw [g98]) (Sub.refl _)))))) (List.Sublist.refl _)
    ) (fun g98 => by
      have g98' := g98
      try simp only [nH] at g98'
      refine RunL.no rfl rfl rfl ?_
      refine RunL.no rfl rfl rfl ?_
      refine sv ?_
      exact RunL.segEnd (Sub.cons rfl (Sub.skip rfl (Sub.skip rfl (Sub.skip rfl (Sub.same rfl (by rw [g98]) (Sub.refl _)))))) (List.Sublist.refl _)
    ) ?_
    refine st ?_
    refine RunL.andPart (dj := 102) (dp := 105) 3 rfl (fun g102 => by
      have g102' := g102
      try simp only [nH] at g102'
      refine sv ?_
      exact RunL.segEnd (Sub.cons rfl (Sub.skip rfl (Sub.skip rfl (Sub.skip rfl (Sub.same rfl (by rw [g102]) (Sub.refl _)))))) (List.Sublist.refl _)
    ) (fun g102 => by
      have g102' := g102
      try simp only [nH] at g102'
      refine RunL.no rfl rfl rfl ?_
      refine RunL.no rfl rfl rfl ?_
      refine sv ?_
      exact RunL.segEnd (Sub.cons rfl (Sub.skip rfl (Sub.skip rfl (Sub.skip rfl (Sub.same rfl (by rw [g102]) (Sub.refl _)))))) (List.Sublist.refl _)
    ) ?_
    refine st ?_
    refine RunL.andPart (dj := 106) (dp := 109) 3 rfl (fun g106 => by
      have g106' := g106
      try simp only [nH] at g106'
      refine sv ?_
      exact RunL.segEnd (Sub.cons rfl (Sub.skip rfl (Sub.skip rfl (Sub.skip rfl (Sub.same rfl (by rw [g106]) (Sub.refl _)))))) (List.Sublist.refl _)
    ) (fun g106 => by
      have g106' := g106
      try simp only [nH] at g106'
      refine RunL.no rfl rfl rfl ?_
      refine RunL.no rfl rfl rfl ?_
      refine sv ?_
      exact RunL.segEnd (Sub.cons rfl (Sub.skip rfl (Sub.skip rfl (Sub.skip rfl (Sub.same rfl (by rw [g106]) (Sub.refl _)))))) (List.Sublist.refl _)
    ) ?_
    refine sv ?_
    exact RunL.segEnd (Sub.cons rfl (Sub.skip rfl (Sub.skip rfl (Sub.skip rfl (Sub.skip rfl (Sub.skip rfl (Sub.skip rfl (Sub.skip rfl (Sub.skip rfl (Sub.skip rfl (Sub.same rfl (by rw [g95]) (Sub.refl _)))))))))))) (List.Sublist.refl _)
  ) (fun g95 => by
    have g95' := g95
    try simp only [nH] at g95'
    iterate 14 refine RunL.no rfl rfl rfl ?_
    refine sv ?_
    exact RunL.segEnd (Sub.cons rfl (Sub.skip rfl (Sub.skip rfl (Sub.skip rfl (Sub.skip rfl (Sub.skip rfl (Sub.skip rfl (Sub.skip rfl (Sub.skip rfl (Sub.skip rfl (Sub.skip rfl (Sub.skip rfl (Sub.skip rfl (Sub.skip rfl (Sub.skip rfl (Sub.skip rfl (Sub.same rfl (by rw [g95]) (Sub.refl _)))))))))))))))))) (List.Sublist.refl _)
  ) ?_
  refine st ?_
  refine RunC.cond rfl (fun h => absurd h (by intro h9; simp only [nH] at h9; rcases h9 with (h9 | h9) | h9; omega; all_goals (rcases f50 with ⟨h1, rfl, _⟩ | ⟨h1, rfl | rfl, _⟩ | ⟨h1, rfl, _⟩ <;> simp at h9 <;> omega))) ?_
  intro c4
  clear c4
  refine st ?_
  refine lv (Val.load_agg rfl (.head _) ty_27 rfl) ?_
  refine RunL.callP (isCall_func rfl ent_13) rfl rfl rfl (fun w hm => (wTX_calls x35 o35 [] W w (hm.pick (news' := trB x35 ++ []) (Pick.cnt fun x => by simp only [nC]; omega)) (hL.mono hm))) ?_
  refine st ?_
  refine RunL.andPart (dj := 118) (dp := 126) 8 rfl (fun g118 => by
    have g118' := g118
    try simp only [nH] at g118'
    refine st ?_
    refine RunL.orPart (dj := 121) (dp := 125) 4 rfl (fun g121 => by
      have g121' := g121
      try simp only [nH] at g121'
      refine st ?_
      refine RunL.val (Val.neqStr rfl rfl) rfl rfl rfl ?_
      refine sv ?_
      exact RunL.segEnd (Sub.cons rfl (Sub.skip rfl (Sub.skip rfl (Sub.skip rfl (Sub.skip rfl (Sub.same rfl (by rw [g121]) (Sub.refl _))))))) (List.Sublist.refl _)
    ) (fun g121 => by
      have g121' := g121
      try simp only [nH] at g121'
      iterate 3 refine RunL.no rfl rfl rfl ?_
      refine sv ?_
      exact RunL.segEnd (Sub.cons rfl (Sub.skip rfl (Sub.skip rfl (Sub.skip rfl (Sub.skip rfl (Sub.same rfl (by rw [g121]) (Sub.refl _))))))) (List.Sublist.refl _)
    ) ?_
    refine sv ?_
    exact RunL.segEnd (Sub.cons rfl (Sub.skip rfl (Sub.skip rfl (Sub.skip rfl (Sub.skip rfl (Sub.skip rfl (Sub.same rfl (by rw [g118]) (Sub.refl _)))))))) (List.Sublist.refl _)
  ) (fun g118 => by
    have g118' := g118
    try simp only [nH] at g118'
    iterate 7 refine RunL.no rfl rfl rfl ?_
    refine sv ?_
    exact RunL.segEnd (Sub.cons rfl (Sub.skip rfl (Sub.skip rfl (Sub.skip rfl (Sub.skip rfl (Sub.skip rfl (Sub.skip rfl (Sub.skip rfl (Sub.skip rfl (Sub.same rfl (by rw [g118]) (Sub.refl _))))))))))) (List.Sublist.refl _)
  ) ?_
  refine st ?_
  refine RunL.orPart (dj := 127) (dp := 136) 9 rfl (fun g127 => by
    have g127' := g127
    try simp only [nH] at g127'
    refine st ?_
    refine RunL.andPart (dj := 130) (dp := 135) 5 rfl (fun g130 => by
      have g130' := g130
      try simp only [nH] at g130'
      refine lv (Val.load_agg rfl (.head _) ty_27 rfl) ?_
      refine lv (Val.build (parts := []) rfl zero_27 places_27 rfl) ?_
      refine RunL.callP (isCall_func rfl ent_14) rfl rfl rfl (fun w hm => (pure_true (sameTX_calls x35 o35 zeroTX.toA (zeroTX_ok.sm (by decide)) [] W w (hm.pick (news' := trB x35 ++ []) (Pick.cnt fun x => by simp only [nC]; omega)) (zeroT_ok w)) (by rw [f35.not g130', TrX.toA_pl]))) ?_
      refine sv ?_
      exact RunL.segEnd (Sub.cons rfl (Sub.skip rfl (Sub.skip rfl (Sub.skip rfl (Sub.skip rfl (Sub.skip rfl (Sub.same rfl (by rw [g130]) (Sub.refl _)))))))) (List.Sublist.refl _)
    ) (fun g130 => by
      have g130' := g130
      try simp only [nH] at g130'
      iterate 4 refine RunL.no rfl rfl rfl ?_
      refine sv ?_
      exact RunL.segEnd (Sub.cons rfl (Sub.skip rfl (Sub.skip rfl (Sub.skip rfl (Sub.skip rfl (Sub.skip rfl (Sub.same rfl (by rw [g130]) (Sub.refl _)))))))) (List.Sublist.refl _)
    ) ?_
    refine sv ?_
    exact RunL.segEnd (Sub.cons rfl (Sub.skip rfl (Sub.skip rfl (Sub.skip rfl (Sub.skip rfl (Sub.skip rfl (Sub.same rfl (by rw [g127]) (Sub.refl _)))))))) (List.Sublist.refl _)
  ) (fun g127 => by
    have g127' := g127
    try simp only [nH] at g127'
    iterate 8 refine RunL.no rfl rfl rfl ?_
    refine sv ?_
    exact RunL.segEnd (Sub.cons rfl (Sub.skip rfl (Sub.skip rfl (Sub.skip rfl (Sub.skip rfl (Sub.skip rfl (Sub.skip rfl (Sub.skip rfl (Sub.skip rfl (Sub.skip rfl (Sub.same rfl (by rw [g127]) (Sub.refl _)))))))))))) (List.Sublist.refl _)
  ) ?_
  refine st ?_
  refine RunC.cond rfl (fun h => absurd h (by rcases f35 with ⟨h1, rfl, _⟩ | ⟨h1, rfl, _⟩ | ⟨h1, rfl, h2, h3⟩ <;> simp [*])) ?_
  intro c5
  clear c5
  refine st ?_
  refine lv (Val.load_agg rfl (.tail _ (.head _)) ty_34 rfl) ?_
  refine RunL.callP (isCall_func rfl ent_15) rfl rfl rfl (fun w hm => (wCX_calls x40 o40 [] W w (hm.pick (news' := cbB x40 ++ []) (Pick.cnt fun x => by simp only [nC]; omega)) (hL.mono hm))) ?_
  refine st ?_
  refine RunL.andPart (dj := 144) (dp := 152) 8 rfl (fun g144 => by
    have g144' := g144
    try simp only [nH] at g144'
    refine st ?_
    refine RunL.orPart (dj := 147) (dp := 151) 4 rfl (fun g147 => by
      have g147' := g147
      try simp only [nH] at g147'
      refine st ?_
      refine RunL.val (Val.neqStr rfl rfl) rfl rfl rfl ?_
      refine sv ?_
      exact RunL.segEnd (Sub.cons rfl (Sub.skip rfl (Sub.skip rfl (Sub.skip rfl (Sub.skip rfl (Sub.same rfl (by rw [g147]) (Sub.refl _))))))) (List.Sublist.refl _)
    ) (fun g147 => by
      have g147' := g147
      try simp only [nH] at g147'
      iterate 3 refine RunL.no rfl rfl rfl ?_
      refine sv ?_
      exact RunL.segEnd (Sub.cons rfl (Sub.skip rfl (Sub.skip rfl (Sub.skip rfl (Sub.skip rfl (Sub.same rfl (by rw [g147]) (Sub.refl _))))))) (List.Sublist.refl _)
    ) ?_
    refine sv ?_
    exact RunL.segEnd (Sub.cons rfl (Sub.skip rfl (Sub.skip rfl (Sub.skip rfl (Sub.skip rfl (Sub.skip rfl (Sub.same rfl (by rw [g144]) (Sub.refl _)))))))) (List.Sublist.refl _)
  ) (fun g144 => by
    have g144' := g144
    try simp only [nH] at g144'
    iterate 7 refine RunL.no rfl rfl rfl ?_
    refine sv ?_
    exact RunL.segEnd (Sub.cons rfl (Sub.skip rfl (Sub.skip rfl (Sub.skip rfl (Sub.skip rfl (Sub.skip rfl (Sub.skip rfl (Sub.skip rfl (Sub.skip rfl (Sub.same rfl (by rw [g144]) (Sub.refl _))))))))))) (List.Sublist.refl _)
  ) ?_
  refine st ?_
  refine RunL.orPart (dj := 153) (dp := 162) 9 rfl (fun g153 => by
    have g153' := g153
    try simp only [nH] at g153'
    refine st ?_
    refine RunL.andPart (dj := 156) (dp := 161) 5 rfl (fun g156 => by
      have g156' := g156
      try simp only [nH] at g156'
      refine lv (Val.load_agg rfl (.tail _ (.head _)) ty_34 rfl) ?_
      refine lv (Val.build (parts := []) rfl zero_34 places_34 rfl) ?_
      refine RunL.callP (isCall_func rfl ent_16) rfl rfl rfl (fun w hm => (pure_true (sameCX_calls x40 o40 zeroCX.toA (zeroCX_ok.sm (by decide)) [] W w (hm.pick (news' := cbB x40 ++ []) (Pick.cnt fun x => by simp only [nC]; omega)) (zeroC_ok w)) (by rw [f40.not g156', CbX.toA_pl]))) ?_
      refine sv ?_
      exact RunL.segEnd (Sub.cons rfl (Sub.skip rfl (Sub.skip rfl (Sub.skip rfl (Sub.skip rfl (Sub.skip rfl (Sub.same rfl (by rw [g156]) (Sub.refl _)))))))) (List.Sublist.refl _)
    ) (fun g156 => by
      have g156' := g156
      try simp only [nH] at g156'
      iterate 4 refine RunL.no rfl rfl rfl ?_
      refine sv ?_
      exact RunL.segEnd (Sub.cons rfl (Sub.skip rfl (Sub.skip rfl (Sub.skip rfl (Sub.skip rfl (Sub.skip rfl (Sub.same rfl (by rw [g156]) (Sub.refl _)))))))) (List.Sublist.refl _)
    ) ?_
    refine sv ?_
    exact RunL.segEnd (Sub.cons rfl (Sub.skip rfl (Sub.skip rfl (Sub.skip rfl (Sub.skip rfl (Sub.skip rfl (Sub.same rfl (by rw [g153]) (Sub.refl _)))))))) (List.Sublist.refl _)
  ) (fun g153 => by
    have g153' := g153
    try simp only [nH] at g153'
    iterate 8 refine RunL.no rfl rfl rfl ?_
    refine sv ?_
    exact RunL.segEnd (Sub.cons rfl (Sub.skip rfl (Sub.skip rfl (Sub.skip rfl (Sub.skip rfl (Sub.skip rfl (Sub.skip rfl (Sub.skip rfl (Sub.skip rfl (Sub.skip rfl (Sub.same rfl (by rw [g153]) (Sub.refl _)))))))))))) (List.Sublist.refl _)
  ) ?_
  refine st ?_
  refine RunC.cond rfl (fun h => absurd h (by rcases f40 with ⟨h1, rfl, _⟩ | ⟨h1, rfl, _⟩ | ⟨h1, rfl, h2, h3⟩ <;> simp [*])) ?_
  intro c6
  clear c6
  refine st ?_
  refine lv (Val.load_agg rfl (.tail _ (.tail _ (.head _))) ty_41 rfl) ?_
  refine RunL.callP (isCall_func rfl ent_17) rfl rfl rfl (fun w hm => (wRX_calls x45 o45 [] W w (hm.pick (news' := ryB x45 ++ []) (Pick.cnt fun x => by simp only [nC]; omega)) (hL.mono hm))) ?_
  refine st ?_
  refine RunL.andPart (dj := 170) (dp := 178) 8 rfl (fun g170 => by
    have g170' := g170
    try simp only [nH] at g170'
    refine st ?_
    refine RunL.orPart (dj := 173) (dp := 177) 4 rfl (fun g173 => by
      have g173' := g173
      try simp only [nH] at g173'
      refine st ?_
      refine RunL.val (Val.neqStr rfl rfl) rfl rfl rfl ?_
      refine sv ?_
      exact RunL.segEnd (Sub.cons rfl (Sub.skip rfl (Sub.skip rfl (Sub.skip rfl (Sub.skip rfl (Sub.same rfl (by rw [g173]) (Sub.refl _))))))) (List.Sublist.refl _)
    ) (fun g173 => by
      have g173' := g173
      try simp only [nH] at g173'
      iterate 3 refine RunL.no rfl rfl rfl ?_
      refine sv ?_
      exact RunL.segEnd (Sub.cons rfl (Sub.skip rfl (Sub.skip rfl (Sub.skip rfl (Sub.skip rfl (Sub.same rfl (by rw [g173]) (Sub.refl _))))))) (List.Sublist.refl _)
    ) ?_
    refine sv ?_
    exact RunL.segEnd (Sub.cons rfl (Sub.skip rfl (Sub.skip rfl (Sub.skip rfl (Sub.skip rfl (Sub.skip rfl (Sub.same rfl (by rw [g170]) (Sub.refl _)))))))) (List.Sublist.refl _)
  ) (fun g170 => by
    have g170' := g170
    try simp only [nH] at g170'
    iterate 7 refine RunL.no rfl rfl rfl ?_
    refine sv ?_
    exact RunL.segEnd (Sub.cons rfl (Sub.skip rfl (Sub.skip rfl (Sub.skip rfl (Sub.skip rfl (Sub.skip rfl (Sub.skip rfl (Sub.skip rfl (Sub.skip rfl (Sub.same rfl (by rw [g170]) (Sub.refl _))))))))))) (List.Sublist.refl _)
  ) ?_
  refine st ?_
  refine RunL.orPart (dj := 179) (dp := 188) 9 rfl (fun g179 => by
    have g179' := g179
    try simp only [nH] at g179'
    refine st ?_
    refine RunL.andPart (dj := 182) (dp := 187) 5 rfl (fun g182 => by
      have g182' := g182
      try simp only [nH] at g182'
      refine lv (Val.load_agg rfl (.tail _ (.tail _ (.head _))) ty_41 rfl) ?_
      refine lv (Val.build (parts := []) rfl zero_41 places_41 rfl) ?_
      refine RunL.callP (isCall_func rfl ent_18) rfl rfl rfl (fun w hm => (pure_true (sameRX_calls x45 o45 zeroRX.toA (zeroRX_ok.sm (by decide)) [] W w (hm.pick (news' := ryB x45 ++ []) (Pick.cnt fun x => by simp only [nC]; omega)) (zeroR_ok w)) (by rw [f45.not g182', RyX.toA_pl]))) ?_
      refine sv ?_
      exact RunL.segEnd (Sub.cons rfl (Sub.skip rfl (Sub.skip rfl (Sub.skip rfl (Sub.skip rfl (Sub.skip rfl (Sub.same rfl (by rw [g182]) (Sub.refl _)))))))) (List.Sublist.refl _)
    ) (fun g182 => by
      have g182' := g182
      try simp only [nH] at g182'
      iterate 4 refine RunL.no rfl rfl rfl ?_
      refine sv ?_
      exact RunL.segEnd (Sub.cons rfl (Sub.skip rfl (Sub.skip rfl (Sub.skip rfl (Sub.skip rfl (Sub.skip rfl (Sub.same rfl (by rw [g182]) (Sub.refl _)))))))) (List.Sublist.refl _)
    ) ?_
    refine sv ?_
    exact RunL.segEnd (Sub.cons rfl (Sub.skip rfl (Sub.skip rfl (Sub.skip rfl (Sub.skip rfl (Sub.skip rfl (Sub.same rfl (by rw [g179]) (Sub.refl _)))))))) (List.Sublist.refl _)
  ) (fun g179 => by
    have g179' := g179
    try simp only [nH] at g179'
    iterate 8 refine RunL.no rfl rfl rfl ?_
    refine sv ?_
    exact RunL.segEnd (Sub.cons rfl (Sub.skip rfl (Sub.skip rfl (Sub.skip rfl (Sub.skip rfl (Sub.skip rfl (Sub.skip rfl (Sub.skip rfl (Sub.skip rfl (Sub.skip rfl (Sub.same rfl (by rw [g179]) (Sub.refl _)))))))))))) (List.Sublist.refl _)
  ) ?_
  refine st ?_
  refine RunC.cond rfl (fun h => absurd h (by rcases f45 with ⟨h1, rfl, _⟩ | ⟨h1, rfl, _⟩ | ⟨h1, rfl, h2, h3⟩ <;> simp [*])) ?_
  intro c7
  clear c7
  refine st ?_
  refine lv (Val.load_agg rfl (.tail _ (.tail _ (.tail _ (.head _)))) ty_48 rfl) ?_
  refine RunL.callNA [(b5, _), (b7, _), (b9, _), (b11, _), (b56, _)] _ rfl (isCall_func rfl ent_19) rfl rfl rfl (fun w hm => (wPX_calls x50 o50 hl50 [] W w (hm.pick (news' := ptB x50.cards ++ []) (Pick.cnt fun x => by simp only [nC]; omega)))) (fun z191 => ?_)
  obtain ⟨y191, hy191⟩ := z191
  dsimp only
  refine st ?_
  refine RunL.orPart (dj := 196) (dp := 204) 8 rfl (fun g196 => by
    have g196' := g196
    try simp only [nH] at g196'
    refine st ?_
    refine RunL.andPart (dj := 199) (dp := 203) 4 rfl (fun g199 => by
      have g199' := g199
      try simp only [nH] at g199'
      refine st ?_
      refine RunL.callP (isCall_func rfl ent_20) rfl rfl rfl (fun w hm => (pure_true (by rw [ownV_slice hy191]; exact rsameBytes_calls ⟨wpS x50.pl, ownQ y191, ownK y191, 0, ownC y191⟩ x w (own_bytes hy191 (fun b o h => hm.at (.tail _ (.tail _ (.tail _ (.tail _ (.tail _ ((by first | exact List.mem_append_left _ h | exact List.mem_append_right _ (List.mem_append_left _ h)))))))))) (SA.ok.mono0 hS (by decide) hm)) (by show wpS x50.pl = x.l; rw [wpS_ok (hz50 g196').1, (hz50 g196').2]))) ?_
      refine sv ?_
      exact RunL.segEnd (Sub.cons rfl (Sub.skip rfl (Sub.skip rfl (Sub.skip rfl (Sub.skip rfl (Sub.same rfl (by rw [g199]) (Sub.refl _))))))) (List.Sublist.refl _)
    ) (fun g199 => by
      have g199' := g199
      try simp only [nH] at g199'
      iterate 3 refine RunL.no rfl rfl rfl ?_
      refine sv ?_
      exact RunL.segEnd (Sub.cons rfl (Sub.skip rfl (Sub.skip rfl (Sub.skip rfl (Sub.skip rfl (Sub.same rfl (by rw [g199]) (Sub.refl _))))))) (List.Sublist.refl _)
    ) ?_
    refine sv ?_
    exact RunL.segEnd (Sub.cons rfl (Sub.skip rfl (Sub.skip rfl (Sub.skip rfl (Sub.skip rfl (Sub.skip rfl (Sub.same rfl (by rw [g196]) (Sub.refl _)))))))) (List.Sublist.refl _)
  ) (fun g196 => by
    have g196' := g196
    try simp only [nH] at g196'
    iterate 7 refine RunL.no rfl rfl rfl ?_
    refine sv ?_
    exact RunL.segEnd (Sub.cons rfl (Sub.skip rfl (Sub.skip rfl (Sub.skip rfl (Sub.skip rfl (Sub.skip rfl (Sub.skip rfl (Sub.skip rfl (Sub.skip rfl (Sub.same rfl (by rw [g196]) (Sub.refl _))))))))))) (List.Sublist.refl _)
  ) ?_
  refine st ?_
  refine RunL.andPart (dj := 205) (dp := 213) 8 rfl (fun g205 => by
    have g205' := g205
    try simp only [nH] at g205'
    refine st ?_
    refine RunL.orPart (dj := 208) (dp := 212) 4 rfl (fun g208 => by
      have g208' := g208
      try simp only [nH] at g208'
      refine lv (Val.load_agg rfl (.tail _ (.tail _ (.tail _ (.head _)))) ty_48 rfl) ?_
      refine lv (Val.build (parts := []) rfl zero_48 places_48 rfl) ?_
      refine RunL.callP (isCall_func rfl ent_21) rfl rfl rfl (fun w hm => (pure_true (samePX_calls x50 o50 (Nat.le_trans hl50 (by decide)) zeroPX.toA (by decide) [] W w (hm.pick (news' := ptB x50.cards ++ []) (Pick.cnt fun x => by simp only [nC]; omega)) (zeroP_ok w)) (by rw [hn50 g208']; rfl))) ?_
      refine sv ?_
      exact RunL.segEnd (Sub.cons rfl (Sub.skip rfl (Sub.skip rfl (Sub.skip rfl (Sub.skip rfl (Sub.same rfl (by rw [g208]) (Sub.refl _))))))) (List.Sublist.refl _)
    ) (fun g208 => by
      have g208' := g208
      try simp only [nH] at g208'
      iterate 3 refine RunL.no rfl rfl rfl ?_
      refine sv ?_
      exact RunL.segEnd (Sub.cons rfl (Sub.skip rfl (Sub.skip rfl (Sub.skip rfl (Sub.skip rfl (Sub.same rfl (by rw [g208]) (Sub.refl _))))))) (List.Sublist.refl _)
    ) ?_
    refine sv ?_
    exact RunL.segEnd (Sub.cons rfl (Sub.skip rfl (Sub.skip rfl (Sub.skip rfl (Sub.skip rfl (Sub.skip rfl (Sub.same rfl (by rw [g205]) (Sub.refl _)))))))) (List.Sublist.refl _)
  ) (fun g205 => by
    have g205' := g205
    try simp only [nH] at g205'
    iterate 7 refine RunL.no rfl rfl rfl ?_
    refine sv ?_
    exact RunL.segEnd (Sub.cons rfl (Sub.skip rfl (Sub.skip rfl (Sub.skip rfl (Sub.skip rfl (Sub.skip rfl (Sub.skip rfl (Sub.skip rfl (Sub.skip rfl (Sub.same rfl (by rw [g205]) (Sub.refl _))))))))))) (List.Sublist.refl _)
  ) ?_
  refine st ?_
  refine RunL.andPart (dj := 214) (dp := 216) 2 rfl (fun g214 => by
    have g214' := g214
    try simp only [nH] at g214'
    refine RunL.callP (isCall_func rfl ent_8) rfl rfl rfl (fun w hm => alive_calls w (hL.mono hm)) ?_
    refine sv ?_
    exact RunL.segEnd (Sub.cons rfl (Sub.skip rfl (Sub.skip rfl (Sub.same rfl (by rw [g214]) (Sub.refl _))))) (List.Sublist.refl _)
  ) (fun g214 => by
    have g214' := g214
    try simp only [nH] at g214'
    refine RunL.no rfl rfl rfl ?_
    refine sv ?_
    exact RunL.segEnd (Sub.cons rfl (Sub.skip rfl (Sub.skip rfl (Sub.same rfl (by rw [g214]) (Sub.refl _))))) (List.Sublist.refl _)
  ) ?_
  refine st ?_
  refine RunC.ret ?_
  exact RunE.retP (.r1 rfl (.tmp rfl)) (by rcases f50 with ⟨h1, rfl, _⟩ | ⟨h1, rfl | rfl, _⟩ | ⟨h1, rfl, h2, h3⟩ <;> simp [*])
theorem bookAgain_walk (W : World) (vs : List Value) (hL : Lw Tryz.prog W) (h : RdAll W [.str, .sl (.int .u8)] vs) : Calls Tryz.prog 3 vs.toArray W (Pure (.bool true) W) := by
  cases h with
  | cons h1 h =>
  cases h with
  | cons h2 h =>
  cases h
  obtain ⟨s, rfl, _⟩ := rd_str h1
  obtain ⟨x, rfl, hx⟩ := rd_by h2
  exact again_calls s x W hL hx.ok
end Go.Proofs.YtleamcmljcdapabGreatDoor
