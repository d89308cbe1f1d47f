/- Walks of the law of layer 14: BookGrows. -/
import Derived.Test.YtleamcmljcdapabGreatDoorU05
set_option linter.unusedSimpArgs false
set_option linter.unusedVariables false
namespace Go.Eng
open Go Go.RowKit
/-- A drawn region, told of by what is done. -/
theorem RunA.asG {P : Program} {ops : Array Oper} {Q : Exit → Act → World → Prop} {k : Nat} {cp : Blks → Prop} {news0 : Blks} {n fuel : Nat} {listed : Array Bool} {r : Regs} {ds : List Deferred} {W : World} {chg news : Blks}
    (h : ∀ (G : Nat → Array Bool → Regs → Blks → Prop) (r1 : Regs) (n1 : Blks), r1 = r → n1 = news → (∀ f l q m, G f l q m = RunA P ops Q k cp news0 n f l q ds W chg m) → G fuel listed r1 n1) : RunA P ops Q k cp news0 n fuel listed r ds W chg news :=
  h (fun f l q m => RunA P ops Q k cp news0 n f l q ds W chg m) r news rfl rfl (fun _ _ _ _ => rfl)
theorem RunA.keepR {P : Program} {ops : Array Oper} {Q : Exit → Act → World → Prop} {k : Nat} {cp : Blks → Prop} {news0 : Blks} {n fuel : Nat} {listed listed' : Array Bool} {q r : Regs} {ds : List Deferred} {W : World} {chg news news' : Blks}
    (h : RunA P ops Q k cp news0 n fuel listed' q ds W chg news') (hs : Sub q r) (hn : Pick news' news) (hl : listed' = listed) : RunA P ops Q k cp news0 n fuel listed r ds W chg news := fun a w s hcl => by
  subst hl
  exact h a w (s.pick hs hn) hcl
theorem Val.remK {P : Program} {r : Regs} {W : World} {chg news : Blks} {dst : Option Tmp} {gd : Option (Nat × Bool)} {ty : TypeId} {pos : String} {after : Array Edge} {x y : Operand} {T yt : TypeId} {k : IntKind} {a b K : Nat} (hx : rev r x = some (.int k (a : Int))) (hy : rev r y = some (.int k (b : Int))) (hb : 0 < b) (hK : a % b = K) :
    Val P r W chg news { dst, op := .binOp .rem T x y yt, type := ty, pos, after, guard := gd } (.int k (K : Int)) := by
  subst hK
  exact Val.remN hx hy hb
end Go.Eng
namespace Go.Bk
open Go Go.Eng Go.RowKit
theorem ln_one {l : List Ln} : ∀ u ∈ (l.map Ln.cells).flatten, u.oneCell' = true := fun u hu => by
  obtain ⟨a, ha, hu⟩ := List.mem_flatten.1 hu
  obtain ⟨x, _, rfl⟩ := List.mem_map.1 ha
  simp only [Ln.cells, List.mem_cons, List.not_mem_nil, or_false] at hu
  rcases hu with rfl | rfl | rfl | rfl <;> rfl
theorem rp_one {l : List Rp} : ∀ u ∈ (l.map Rp.cells).flatten, u.oneCell' = true := fun u hu => by
  obtain ⟨a, ha, hu⟩ := List.mem_flatten.1 hu
  obtain ⟨x, _, rfl⟩ := List.mem_map.1 ha
  simp only [Rp.cells, List.mem_cons, List.not_mem_nil, or_false] at hu
  rcases hu with rfl | rfl | rfl | rfl <;> rfl
theorem ln_len {l : List Ln} : (l.map Ln.cells).flatten.length = l.length * 4 := flat_len (f := Ln.cells) (sz := 4) (fun _ => rfl) l
theorem rp_len {l : List Rp} : (l.map Rp.cells).flatten.length = l.length * 4 := flat_len (f := Rp.cells) (sz := 4) (fun _ => rfl) l
theorem snoc_flat {α : Type} {f : α → List Value} {l : List α} {a : α} : ((l ++ [a]).map f).flatten = (l.map f).flatten ++ f a := by simp
theorem rd_cbn {w : World} {cs : List Value} (h : Rd w cbSh cs) : ∃ t : CbA, cs = t.cells ∧ CbOk w t ∧ (t.loans.q = none → t.loans.l.length = 0 ∧ t.loans.c = 0) := by
  obtain ⟨_, _, rfl, h1, h⟩ := rd_cons h
  obtain ⟨_, _, rfl, h2, h⟩ := rd_cons h
  obtain ⟨_, _, rfl, h3, h⟩ := rd_cons h
  obtain ⟨_, _, rfl, h4, h⟩ := rd_cons h
  obtain rfl := rd_nil h
  obtain ⟨n, rfl, _⟩ := rd_int h1
  obtain ⟨a, rfl, ha⟩ := rd_sa (f := intC) rd_int h2
  obtain ⟨m, rfl, _⟩ := rd_int h3
  obtain ⟨b, rfl, hb⟩ := rd_sa rd_ln h4
  exact ⟨⟨n, a, m, b⟩, rfl, ⟨ha.ok, hb.ok⟩, hb.nq⟩
theorem rd_ryn {w : World} {cs : List Value} (h : Rd w rySh cs) : ∃ t : RyA, cs = t.cells ∧ RyOk w t ∧ t.shares.l.length ≤ maxLen ∧ (t.reports.q = none → t.reports.l.length = 0 ∧ t.reports.c = 0) := by
  obtain ⟨_, _, rfl, h1, h⟩ := rd_cons h
  obtain ⟨_, _, rfl, h2, h⟩ := rd_cons h
  obtain ⟨_, _, rfl, h3, h⟩ := rd_cons h
  obtain ⟨_, _, rfl, h4, h⟩ := rd_cons h
  obtain ⟨_, _, rfl, h5, h⟩ := rd_cons h
  obtain rfl := rd_nil h
  obtain ⟨a, rfl, ha⟩ := rd_sa rd_tm h1
  obtain ⟨b, rfl, hb⟩ := rd_sa (f := intC) rd_int h2
  obtain ⟨c, rfl, hc⟩ := rd_sa (f := SA.cell) (p := fun s => SaIn intC 1 (fun _ => True) w s) (rd_sa (f := intC) rd_int) h3
  obtain ⟨d, rfl, hd⟩ := rd_sa rd_rp h4
  obtain ⟨e, rfl, he⟩ := rd_sa (f := intC) rd_int h5
  exact ⟨⟨a, b, c, d, e⟩, rfl, ⟨ha.ok, hb.ok, hc.ok, fun x hx => (hc.each x hx).ok, hd.ok, he.ok⟩, Nat.le_trans hc.cap hc.few, hd.nq⟩
theorem rd_u8n {w : World} {cs : List Value} (h : Rd w (.int .u8) cs) : ∃ a : Nat, cs = [.int .u8 (a : Int)] ∧ a < 256 := by
  cases h with
  | @int _ n h =>
    have h2 : 0 ≤ n ∧ n ≤ 255 := by
      have h3 : (decide (IntKind.u8.min ≤ n) && decide (n ≤ IntKind.u8.max)) = true := h
      rw [Bool.and_eq_true, decide_eq_true_eq, decide_eq_true_eq] at h3
      exact h3
    exact ⟨n.toNat, by congr 2; omega, by omega⟩
def mkC (c : CbA) (y : Eng.Own) (l : Ln) : CbA := ⟨c.slots, c.homes, c.wrong, OL.sa (y, c.loans.l ++ [l])⟩
def mkR (r : RyA) (y : Eng.Own) (l : Rp) : RyA := ⟨r.terms, r.prices, r.shares, OL.sa (y, r.reports.l ++ [l]), r.paid⟩
def mkP (p : PsA) (y : Eng.Own) (l : List Pt) : PsA := ⟨OL.sa (y, l), p.less, p.loss⟩
theorem mkC_v {c : CbA} {y : Eng.Own} {l : Ln} (h : OL.ok (y, c.loans.l ++ [l]) Ln.cells 4) : (mkC c y l).v = .agg #[.int .i64 c.slots, c.homes.v, .int .i64 c.wrong, ownV y (c.loans.l ++ [l]).length] := by
  show Value.agg [_, _, _, (OL.sa (y, c.loans.l ++ [l])).v].toArray = _
  rw [OL.sa_v h]
  rfl
theorem mkR_v {r : RyA} {y : Eng.Own} {l : Rp} (h : OL.ok (y, r.reports.l ++ [l]) Rp.cells 4) : (mkR r y l).v = .agg #[r.terms.v, r.prices.v, r.shares.v, ownV y (r.reports.l ++ [l]).length, r.paid.v] := by
  show Value.agg [_, _, _, (OL.sa (y, r.reports.l ++ [l])).v, _].toArray = _
  rw [OL.sa_v h]
  rfl
theorem mkP_v {p : PsA} {y : Eng.Own} {l : List Pt} (h : OL.ok (y, l) Pt.cells 5) : (mkP p y l).v = .agg #[ownV y l.length, .int .i64 p.less.lo, .int .i64 p.less.hi, .int .i64 p.loss.lo, .int .i64 p.loss.hi] := by
  show Value.agg [(OL.sa (y, l)).v, _, _, _, _].toArray = _
  rw [OL.sa_v h]
  rfl
theorem own_relen {sz n : Nat} {x : Eng.Own} {xs ys : List Value} (h : OwnOk sz x n xs) (hl : ys.length = xs.length) : OwnOk sz x n ys :=
  ⟨hl.trans h.len, h.nil, fun b c r e => by
    obtain ⟨h1, h2, h3⟩ := h.cap b c r e
    exact ⟨h1, h2, by rw [List.length_append] at h3 ⊢; omega⟩⟩
/-- A card with another upper end of its width. -/
def wider (c : Pt) (n : Int) : Pt := ⟨c.size, ⟨c.wide.lo, n⟩, c.marks⟩
theorem grows_false (cX cX2 rX rX2 : Bool) (s s2 u u2 : Str) (hc : cX2 = true → cX = true ∧ Lib.hasPrefix s2 s = true ∧ s.length < s2.length) (hr : rX2 = true → rX = true ∧ Lib.hasPrefix u2 u = true ∧ u.length < u2.length) :
    ((decide ((if cX2 = true then (0 : Int) else 1) = 0) && (!decide ((if cX = true then (0 : Int) else 1) = 0) || !Lib.hasPrefix (if cX2 = true then s2 else []) (if cX = true then s else []) || decide (((if cX2 = true then s2 else []).length : Int) ≤ ((if cX = true then s else []).length : Int)))) ||
      (decide ((if rX2 = true then (0 : Int) else 1) = 0) && (!decide ((if rX = true then (0 : Int) else 1) = 0) || !Lib.hasPrefix (if rX2 = true then u2 else []) (if rX = true then u else []) || decide (((if rX2 = true then u2 else []).length : Int) ≤ ((if rX = true then u else []).length : Int))))) = false := by
  have key : ∀ (a b : Bool) (s s2 : Str), (b = true → a = true ∧ Lib.hasPrefix s2 s = true ∧ s.length < s2.length) → (decide ((if b = true then (0 : Int) else 1) = 0) && (!decide ((if a = true then (0 : Int) else 1) = 0) || !Lib.hasPrefix (if b = true then s2 else []) (if a = true then s else []) || decide (((if b = true then s2 else []).length : Int) ≤ ((if a = true then s else []).length : Int)))) = false := by
    intro a b s s2 h
    cases b with
    | false => rfl
    | true =>
      obtain ⟨h1, h2, h3⟩ := h rfl
      subst h1
      have h4 : ¬ ((s2.length : Int) ≤ (s.length : Int)) := by omega
      simp [h2, h4]
  rw [key _ _ _ _ hc, key _ _ _ _ hr]
  rfl
theorem same_end {p z : Ps} (h1 : wpE p = 0) (h2 : wpE z = 0) : (decide (wpS p = wpS z) == decide (p = z)) = true := by
  have hp := ite_one h1
  have hz := ite_one h2
  rw [wpS_ok hp, wpS_ok hz]
  have h3 : decide (psS p = psS z) = decide (p = z) := by simp only [psS_inj hp hz]
  rw [h3]
  simp
end Go.Bk
namespace Go.Proofs.YtleamcmljcdapabGreatDoor
open Go Go.Eng Go.Bk Go.RowKit
theorem hasPrefix_calls (s p : Str) (W : World) : Calls Tryz.prog 26 #[.string (bs s), .string (bs p)] W (Pure (.bool (Lib.hasPrefix s p)) W) :=
  calls_mono (Tryz.strings_HasPrefix (bs s) (bs p) W) (by rintro e w' ⟨rfl, rfl⟩; exact ⟨rfl, Mem.refl _⟩)
theorem writeCm_calls (c : CbA) (hs : CbS c) (hl : c.loans.l.length ≤ 40) (y : Eng.Own) (l : Ln) (hy : OL.ok (y, c.loans.l ++ [l]) Ln.cells 4) (w : World) (hL : Lw Tryz.prog w) (hC : CbOk w c) (hm : ∀ b o, (b, o) ∈ ownB 74 y ((c.loans.l ++ [l]).map Ln.cells).flatten → w.heap[b]? = some o) :
    Calls Tryz.prog 15 #[.agg #[.int .i64 c.slots, c.homes.v, .int .i64 c.wrong, ownV y (c.loans.l ++ [l]).length]] w (Pure (writeV (cabX { c.pl with loans := c.pl.loans ++ [l] }) (cabS { c.pl with loans := c.pl.loans ++ [l] })) w) := by
  have h1 := WriteCabinet_calls (mkC c y l) ⟨hs.1, by show (c.loans.l ++ [l]).length ≤ _; rw [List.length_append]; show _ + 1 ≤ _; omega⟩ w hL ⟨hC.homes, own_sl (f := Ln.cells) (fun _ => rfl) (by decide) hy hm⟩
  rw [mkC_v hy] at h1
  exact h1
theorem writeRm_calls (c : RyA) (hs : RySm c) (hl : c.reports.l.length ≤ 40) (y : Eng.Own) (l : Rp) (hy : OL.ok (y, c.reports.l ++ [l]) Rp.cells 4) (w : World) (hL : Lw Tryz.prog w) (hC : RyOk w c) (hm : ∀ b o, (b, o) ∈ ownB 76 y ((c.reports.l ++ [l]).map Rp.cells).flatten → w.heap[b]? = some o) :
    Calls Tryz.prog 17 #[.agg #[c.terms.v, c.prices.v, c.shares.v, ownV y (c.reports.l ++ [l]).length, c.paid.v]] w (Pure (writeV (royalX { c.pl with reports := c.pl.reports ++ [l] }) (royalS { c.pl with reports := c.pl.reports ++ [l] })) w) := by
  have h1 := WriteRoyal_calls (mkR c y l) ⟨hs.1, hs.2, hs.3, hs.4, by show (c.reports.l ++ [l]).length ≤ _; rw [List.length_append]; show _ + 1 ≤ _; omega, hs.6⟩ w hL ⟨hC.terms, hC.prices, hC.shares, hC.rows, own_sl (f := Rp.cells) (fun _ => rfl) (by decide) hy hm, hC.paid⟩
  rw [mkR_v hy] at h1
  exact h1
theorem writePm_calls (p : PsA) (y : Eng.Own) (l : List Pt) (n : Nat) (hn : l.length = n) (hl : l.length ≤ 10000) (hy : OL.ok (y, l) Pt.cells 5) (w : World) (hm : ∀ b o, (b, o) ∈ ownB 69 y (l.map Pt.cells).flatten → w.heap[b]? = some o) :
    Calls Tryz.prog 19 #[.agg #[ownV y n, .int .i64 p.less.lo, .int .i64 p.less.hi, .int .i64 p.loss.lo, .int .i64 p.loss.hi]] w (News (fun z : { y2 : Eng.Own // OwnOk 1 y2 (wpS (mkP p y l).pl).length (byc (wpS (mkP p y l).pl)) } => .tuple #[ownV z.1 (wpS (mkP p y l).pl).length, .int .i64 (wpE (mkP p y l).pl)]) (fun z => ownB 5 z.1 (byc (wpS (mkP p y l).pl)) ++ []) w) := by
  have h1 := writePrints_any (mkP p y l) hl w (own_sl (f := Pt.cells) (fun _ => rfl) (by decide) hy hm)
  rw [mkP_v hy, hn] at h1
  exact h1
theorem sameP2_calls (p : PsA) (w : World) (hp : p.cards.ok Pt.cells 5 w) (hl1 : p.cards.l.length ≤ 10000) (y : Eng.Own) (l : List Pt) (n : Nat) (hn : l.length = n) (hl : l.length ≤ 10000) (hy : OL.ok (y, l) Pt.cells 5) (hm : ∀ b o, (b, o) ∈ ownB 69 y (l.map Pt.cells).flatten → w.heap[b]? = some o) :
    Calls Tryz.prog 21 #[p.v, .agg #[ownV y n, .int .i64 p.less.lo, .int .i64 p.less.hi, .int .i64 p.loss.lo, .int .i64 p.loss.hi]] w (Pure (.bool (decide (p.pl = (mkP p y l).pl))) w) := by
  have h1 := rsamePrints_calls p (mkP p y l) w hp (own_sl (f := Pt.cells) (fun _ => rfl) (by decide) hy hm) (Nat.le_trans hl1 (by decide)) (Nat.le_trans hl (by decide))
  rw [mkP_v hy, hn] at h1
  exact h1
set_option maxHeartbeats 4000000 in
theorem grows_law (c : CbA) (r : RyA) (p : PsA) (l : Ln) (q : Rp) (a b : Nat) (ha : a < 256) (hb : b < 256) (W : World) (hL : Lw Tryz.prog W) (hC : CbOk W c) (hR : RyOk W r) (hP : SaIn Pt.cells 5 (fun _ => True) W p.cards) (hn2 : r.shares.l.length ≤ 9223372036854775807) (hcq : c.loans.q = none → c.loans.l.length = 0 ∧ c.loans.c = 0) (hrq : r.reports.q = none → r.reports.l.length = 0 ∧ r.reports.c = 0) : Calls Tryz.prog 6 #[c.v, r.v, p.v, .agg l.cells.toArray, .agg q.cells.toArray, .int .u8 (a : Int), .int .u8 (b : Int)] W (Pure (.bool true) W) := by
  have hP1 := hP.ok
  refine calls_start Tryz.func6 rfl rfl ?_
  refine csr ?_
  refine RunL.new (New.box rfl) rfl rfl rfl (fun b7 => ?_)
  refine RunL.new (New.box rfl) rfl rfl rfl (fun b8 => ?_)
  refine RunL.new (New.box rfl) rfl rfl rfl (fun b9 => ?_)
  refine RunL.new (New.box rfl) rfl rfl rfl (fun b10 => ?_)
  refine RunL.new (New.box rfl) rfl rfl rfl (fun b11 => ?_)
  refine vp rfl rfl rfl rfl ?_
  refine nnx ?_
  refine RunC.seq ?_
  refine csr ?_
  refine RunL.val (Val.build (parts := []) rfl zero_27 places_27 rfl) rfl rfl rfl ?_
  refine RunL.val (Val.load_agg rfl (.tail _ (.tail _ (.tail _ (.tail _ (.head _))))) ty_34 rfl) rfl rfl rfl ?_
  refine RunL.val (Val.load_agg rfl (.tail _ (.tail _ (.tail _ (.head _)))) ty_41 rfl) rfl rfl rfl ?_
  refine RunL.val (Val.load_agg rfl (.tail _ (.tail _ (.head _))) ty_48 rfl) rfl rfl rfl ?_
  refine RunL.callP (isCall_func rfl ent_22) rfl rfl rfl (fun w hm => great_calls nilTA c r p w (nilTA_ok w) (hR.mono0 hm) (by decide) hn2) ?_
  refine nnx ?_
  refine RunC.cond rfl ?_ ?_
  ·intro c0
   have c0' := c0; clear c0
   try simp only [nH] at c0'
   refine csr ?_
   refine RunL.callP (isCall_func rfl ent_8) rfl rfl rfl (fun w hm => alive_calls w (hL.mono hm)) ?_
   refine vp rfl rfl rfl rfl ?_
   refine nnx ?_
   refine RunC.ret ?_
   refine RunE.pass_ret ?_
   exact RunE.retP (.r1 rfl (.tmp rfl)) (by first | rfl | simp)
  intro c0
  have c0' := c0; clear c0
  try simp only [nH] at c0'
  have hfe := few_of (by simpa using c0' : greatX nilTA.pl c.pl r.pl p.pl = false)
  obtain ⟨_, hsc, hsr, hl40⟩ := (hfe : Few nilTA.pl c.pl r.pl p.pl).sm
  have hcl : c.loans.l.length ≤ 40 := hfe.loans
  have hrl : r.reports.l.length ≤ 40 := hfe.reports
  have hpl : p.cards.l.length ≤ 40 := hfe.cards
  refine RunC.skip ?_
  refine RunE.next ?_
  refine RunC.seq ?_
  apply RunC.drawJ (J := J3 _ _ _ _ _ _) 8 fol_ (.cons .here rfl (.cons .here rfl (.cons .here rfl (.cons .here rfl (.cons .here rfl .nil)))))
  ·refine va 0 rfl (Val.load_agg rfl (.tail _ (.tail _ (.tail _ (.tail _ (.head _))))) ty_34 rfl) rfl rfl rfl (.cons .here rfl (.cons .here rfl (.cons .here rfl (.cons .here rfl (.cons .here rfl .nil))))) rfl ?_
   refine va 1 rfl (Val.load_agg rfl (.tail _ (.tail _ (.tail _ (.head _)))) ty_41 rfl) rfl rfl rfl (.cons .here rfl (.cons .here rfl (.cons .here rfl (.cons .here rfl (.cons .here rfl .nil))))) rfl ?_
   refine va 2 rfl (Val.load_agg rfl (.tail _ (.tail _ (.head _))) ty_48 rfl) rfl rfl rfl (.cons .here rfl (.cons .here rfl (.cons .here rfl (.cons .here rfl (.cons .here rfl .nil))))) rfl ?_
   refine RunA.all (rs := [3, 4, 5]) (by kernel_rfl) (by simp) (by kernel_rfl) (fun m hm => ?_)
   simp only [List.mem_cons, List.not_mem_nil, or_false] at hm
   rcases hm with rfl | rfl | rfl
   ·refine RunI.new rfl (New.alloc zero_34) rfl rfl rfl (fun b15 => (RunK.toA (.cons (.there .here) rfl (.cons (.there .here) rfl (.cons (.there .here) rfl (.cons (.there .here) rfl (.cons (.there .here) rfl .nil))))) (.cons .here rfl (.cons .here rfl (.cons .here rfl (.cons .here rfl (.cons .here rfl .nil))))) rfl ?_))
    refine RunA.all (rs := [4, 5]) (by kernel_rfl) (by simp) (by kernel_rfl) (fun m hm => ?_)
    simp only [List.mem_cons, List.not_mem_nil, or_false] at hm
    rcases hm with rfl | rfl
    ·refine RunI.new rfl (New.alloc zero_41) rfl rfl rfl (fun b16 => (RunK.toA (.cons (.there (.there .here)) rfl (.cons (.there (.there .here)) rfl (.cons (.there (.there .here)) rfl (.cons (.there (.there .here)) rfl (.cons (.there (.there .here)) rfl .nil))))) (.cons .here rfl (.cons .here rfl (.cons .here rfl (.cons .here rfl (.cons .here rfl .nil))))) rfl ?_))
     refine RunA.one (i := 5) (by kernel_rfl) (by kernel_rfl) ?_
     refine RunI.new rfl (New.alloc zero_48) rfl rfl rfl (fun b17 => (RunK.toA (.cons .here rfl (.cons (.there (.there .here)) rfl (.cons (.there (.there .here)) rfl (.cons (.there (.there .here)) rfl (.cons (.there (.there .here)) rfl (.cons (.there (.there .here)) rfl .nil)))))) (.cons (.there .here) rfl (.cons (.there .here) rfl (.cons (.there .here) rfl (.cons (.there .here) rfl (.cons (.there .here) rfl .nil))))) rfl ?_))
     refine RunA.one (i := 6) (by kernel_rfl) (by kernel_rfl) ?_
     refine RunI.sto rfl (Sto.store rfl rfl (.there (.there .here)) ty_34 rfl rfl) rfl rfl (RunK.toA (.cons .here rfl (.cons (.there (.there .here)) rfl (.cons (.there (.there .here)) rfl (.cons (.there (.there .here)) rfl (.cons (.there (.there .here)) rfl (.cons (.there (.there .here)) rfl .nil)))))) (.cons .here rfl (.cons .here rfl (.cons .here rfl (.cons .here rfl (.cons .here rfl (.cons .here rfl .nil)))))) rfl ?_)
     refine RunA.one (i := 7) (by kernel_rfl) (by kernel_rfl) ?_
     refine RunI.sto rfl (Sto.store rfl rfl (.there .here) ty_41 rfl rfl) rfl rfl (RunK.toA (.cons .here rfl (.cons (.there (.there .here)) rfl (.cons (.there (.there .here)) rfl (.cons (.there (.there .here)) rfl (.cons (.there (.there .here)) rfl (.cons (.there (.there .here)) rfl .nil)))))) (.cons .here rfl (.cons .here rfl (.cons .here rfl (.cons .here rfl (.cons .here rfl (.cons .here rfl .nil)))))) rfl ?_)
     refine RunA.toB (by kernel_rfl) ?_
     refine RunB.one (i := 8) (by kernel_rfl) ?_
     refine RunI.sto rfl (Sto.store rfl rfl .here ty_48 rfl rfl) rfl rfl (RunK.toB ?_)
     refine RunB.done (by kernel_rfl) ?_
     exact RunE.join3 b15 b16 b17 (Sub.refl _) (Pick.refl _)
    refine RunI.new rfl (New.alloc zero_48) rfl rfl rfl (fun b17 => (RunK.toA (.cons .here rfl (.cons (.there .here) rfl (.cons (.there .here) rfl (.cons (.there .here) rfl (.cons (.there .here) rfl (.cons (.there .here) rfl .nil)))))) (.cons (.there .here) rfl (.cons (.there .here) rfl (.cons (.there .here) rfl (.cons (.there .here) rfl (.cons (.there .here) rfl .nil))))) rfl ?_))
    refine RunA.one (i := 4) (by kernel_rfl) (by kernel_rfl) ?_
    refine RunI.new rfl (New.alloc zero_41) rfl rfl rfl (fun b16 => (RunK.toA (.cons (.there .here) rfl (.cons (.there (.there .here)) rfl (.cons (.there (.there .here)) rfl (.cons (.there (.there .here)) rfl (.cons (.there (.there .here)) rfl (.cons (.there (.there .here)) rfl .nil)))))) (.cons .here rfl (.cons .here rfl (.cons .here rfl (.cons .here rfl (.cons .here rfl (.cons .here rfl .nil)))))) rfl ?_))
    refine RunA.one (i := 6) (by kernel_rfl) (by kernel_rfl) ?_
    refine RunI.sto rfl (Sto.store rfl rfl (.there (.there .here)) ty_34 rfl rfl) rfl rfl (RunK.toA (.cons (.there .here) rfl (.cons (.there (.there .here)) rfl (.cons (.there (.there .here)) rfl (.cons (.there (.there .here)) rfl (.cons (.there (.there .here)) rfl (.cons (.there (.there .here)) rfl .nil)))))) (.cons .here rfl (.cons .here rfl (.cons .here rfl (.cons .here rfl (.cons .here rfl (.cons .here rfl .nil)))))) rfl ?_)
    refine RunA.one (i := 7) (by kernel_rfl) (by kernel_rfl) ?_
    refine RunI.sto rfl (Sto.store rfl rfl .here ty_41 rfl rfl) rfl rfl (RunK.toA (.cons (.there .here) rfl (.cons (.there (.there .here)) rfl (.cons (.there (.there .here)) rfl (.cons (.there (.there .here)) rfl (.cons (.there (.there .here)) rfl (.cons (.there (.there .here)) rfl .nil)))))) (.cons .here rfl (.cons .here rfl (.cons .here rfl (.cons .here rfl (.cons .here rfl (.cons .here rfl .nil)))))) rfl ?_)
    refine RunA.toB (by kernel_rfl) ?_
    refine RunB.one (i := 8) (by kernel_rfl) ?_
    refine RunI.sto rfl (Sto.store rfl rfl (.there .here) ty_48 rfl rfl) rfl rfl (RunK.toB ?_)
    refine RunB.done (by kernel_rfl) ?_
    exact RunE.join3 b15 b16 b17 (Sub.cons (t := 17) rfl (Sub.cons (t := 16) rfl (Sub.cons (t := 15) rfl (Sub.cons (t := 38) rfl (Sub.cons (t := 37) rfl (Sub.cons (t := 36) rfl (Sub.skip rfl (Sub.skip rfl (Sub.skip rfl (Sub.skip rfl (Sub.skip rfl (Sub.skip rfl (Sub.refl _))))))))))))) (.cons (.there .here) rfl (.cons .here rfl (.cons .here rfl (.cons .here rfl (.cons .here rfl (.cons .here rfl (.cons .here rfl (.cons .here rfl .nil))))))))
   ·refine RunI.new rfl (New.alloc zero_41) rfl rfl rfl (fun b16 => (RunK.toA (.cons (.there .here) rfl (.cons (.there .here) rfl (.cons (.there .here) rfl (.cons (.there .here) rfl (.cons (.there .here) rfl .nil))))) (.cons .here rfl (.cons .here rfl (.cons .here rfl (.cons .here rfl (.cons .here rfl .nil))))) rfl ?_))
    refine RunA.all (rs := [3, 5]) (by kernel_rfl) (by simp) (by kernel_rfl) (fun m hm => ?_)
    simp only [List.mem_cons, List.not_mem_nil, or_false] at hm
    rcases hm with rfl | rfl
    ·refine RunI.new rfl (New.alloc zero_34) rfl rfl rfl (fun b15 => (RunK.toA (.cons (.there (.there .here)) rfl (.cons (.there (.there .here)) rfl (.cons (.there (.there .here)) rfl (.cons (.there (.there .here)) rfl (.cons (.there (.there .here)) rfl .nil))))) (.cons .here rfl (.cons .here rfl (.cons .here rfl (.cons .here rfl (.cons .here rfl .nil))))) rfl ?_))
     refine RunA.one (i := 5) (by kernel_rfl) (by kernel_rfl) ?_
     refine RunI.new rfl (New.alloc zero_48) rfl rfl rfl (fun b17 => (RunK.toA (.cons .here rfl (.cons (.there (.there .here)) rfl (.cons (.there (.there .here)) rfl (.cons (.there (.there .here)) rfl (.cons (.there (.there .here)) rfl (.cons (.there (.there .here)) rfl .nil)))))) (.cons (.there .here) rfl (.cons (.there .here) rfl (.cons (.there .here) rfl (.cons (.there .here) rfl (.cons (.there .here) rfl .nil))))) rfl ?_))
     refine RunA.one (i := 6) (by kernel_rfl) (by kernel_rfl) ?_
     refine RunI.sto rfl (Sto.store rfl rfl (.there .here) ty_34 rfl rfl) rfl rfl (RunK.toA (.cons .here rfl (.cons (.there (.there .here)) rfl (.cons (.there (.there .here)) rfl (.cons (.there (.there .here)) rfl (.cons (.there (.there .here)) rfl (.cons (.there (.there .here)) rfl .nil)))))) (.cons .here rfl (.cons .here rfl (.cons .here rfl (.cons .here rfl (.cons .here rfl (.cons .here rfl .nil)))))) rfl ?_)
     refine RunA.one (i := 7) (by kernel_rfl) (by kernel_rfl) ?_
     refine RunI.sto rfl (Sto.store rfl rfl (.there (.there .here)) ty_41 rfl rfl) rfl rfl (RunK.toA (.cons .here rfl (.cons (.there (.there .here)) rfl (.cons (.there (.there .here)) rfl (.cons (.there (.there .here)) rfl (.cons (.there (.there .here)) rfl (.cons (.there (.there .here)) rfl .nil)))))) (.cons .here rfl (.cons .here rfl (.cons .here rfl (.cons .here rfl (.cons .here rfl (.cons .here rfl .nil)))))) rfl ?_)
     refine RunA.toB (by kernel_rfl) ?_
     refine RunB.one (i := 8) (by kernel_rfl) ?_
     refine RunI.sto rfl (Sto.store rfl rfl .here ty_48 rfl rfl) rfl rfl (RunK.toB ?_)
     refine RunB.done (by kernel_rfl) ?_
     exact RunE.join3 b15 b16 b17 (Sub.cons (t := 17) rfl (Sub.cons (t := 16) rfl (Sub.cons (t := 15) rfl (Sub.cons (t := 38) rfl (Sub.cons (t := 37) rfl (Sub.cons (t := 36) rfl (Sub.skip rfl (Sub.skip rfl (Sub.skip rfl (Sub.skip rfl (Sub.skip rfl (Sub.skip rfl (Sub.refl _))))))))))))) (.cons .here rfl (.cons (.there .here) rfl (.cons .here rfl (.cons .here rfl (.cons .here rfl (.cons .here rfl (.cons .here rfl (.cons .here rfl .nil))))))))
    refine RunI.new rfl (New.alloc zero_48) rfl rfl rfl (fun b17 => (RunK.toA (.cons .here rfl (.cons (.there .here) rfl (.cons (.there .here) rfl (.cons (.there .here) rfl (.cons (.there .here) rfl (.cons (.there .here) rfl .nil)))))) (.cons (.there .here) rfl (.cons (.there .here) rfl (.cons (.there .here) rfl (.cons (.there .here) rfl (.cons (.there .here) rfl .nil))))) rfl ?_))
    refine RunA.one (i := 3) (by kernel_rfl) (by kernel_rfl) ?_
    refine RunI.new rfl (New.alloc zero_34) rfl rfl rfl (fun b15 => (RunK.toA (.cons (.there .here) rfl (.cons (.there (.there .here)) rfl (.cons (.there (.there .here)) rfl (.cons (.there (.there .here)) rfl (.cons (.there (.there .here)) rfl (.cons (.there (.there .here)) rfl .nil)))))) (.cons .here rfl (.cons .here rfl (.cons .here rfl (.cons .here rfl (.cons .here rfl (.cons .here rfl .nil)))))) rfl ?_))
    refine RunA.one (i := 6) (by kernel_rfl) (by kernel_rfl) ?_
    refine RunI.sto rfl (Sto.store rfl rfl .here ty_34 rfl rfl) rfl rfl (RunK.toA (.cons (.there .here) rfl (.cons (.there (.there .here)) rfl (.cons (.there (.there .here)) rfl (.cons (.there (.there .here)) rfl (.cons (.there (.there .here)) rfl (.cons (.there (.there .here)) rfl .nil)))))) (.cons .here rfl (.cons .here rfl (.cons .here rfl (.cons .here rfl (.cons .here rfl (.cons .here rfl .nil)))))) rfl ?_)
    refine RunA.one (i := 7) (by kernel_rfl) (by kernel_rfl) ?_
    refine RunI.sto rfl (Sto.store rfl rfl (.there (.there .here)) ty_41 rfl rfl) rfl rfl (RunK.toA (.cons (.there .here) rfl (.cons (.there (.there .here)) rfl (.cons (.there (.there .here)) rfl (.cons (.there (.there .here)) rfl (.cons (.there (.there .here)) rfl (.cons (.there (.there .here)) rfl .nil)))))) (.cons .here rfl (.cons .here rfl (.cons .here rfl (.cons .here rfl (.cons .here rfl (.cons .here rfl .nil)))))) rfl ?_)
    refine RunA.toB (by kernel_rfl) ?_
    refine RunB.one (i := 8) (by kernel_rfl) ?_
    refine RunI.sto rfl (Sto.store rfl rfl (.there .here) ty_48 rfl rfl) rfl rfl (RunK.toB ?_)
    refine RunB.done (by kernel_rfl) ?_
    exact RunE.join3 b15 b16 b17 (Sub.cons (t := 17) rfl (Sub.cons (t := 16) rfl (Sub.cons (t := 15) rfl (Sub.cons (t := 38) rfl (Sub.cons (t := 37) rfl (Sub.cons (t := 36) rfl (Sub.skip rfl (Sub.skip rfl (Sub.skip rfl (Sub.skip rfl (Sub.skip rfl (Sub.skip rfl (Sub.refl _))))))))))))) (.cons (.there .here) rfl (.cons (.there .here) rfl (.cons .here rfl (.cons .here rfl (.cons .here rfl (.cons .here rfl (.cons .here rfl (.cons .here rfl .nil))))))))
   refine RunI.new rfl (New.alloc zero_48) rfl rfl rfl (fun b17 => (RunK.toA (.cons .here rfl (.cons .here rfl (.cons .here rfl (.cons .here rfl (.cons .here rfl (.cons .here rfl .nil)))))) (.cons (.there .here) rfl (.cons (.there .here) rfl (.cons (.there .here) rfl (.cons (.there .here) rfl (.cons (.there .here) rfl .nil))))) rfl ?_))
   refine RunA.all (rs := [3, 4]) (by kernel_rfl) (by simp) (by kernel_rfl) (fun m hm => ?_)
   simp only [List.mem_cons, List.not_mem_nil, or_false] at hm
   rcases hm with rfl | rfl
   ·refine RunI.new rfl (New.alloc zero_34) rfl rfl rfl (fun b15 => (RunK.toA (.cons (.there .here) rfl (.cons (.there .here) rfl (.cons (.there .here) rfl (.cons (.there .here) rfl (.cons (.there .here) rfl (.cons (.there .here) rfl .nil)))))) (.cons .here rfl (.cons .here rfl (.cons .here rfl (.cons .here rfl (.cons .here rfl (.cons .here rfl .nil)))))) rfl ?_))
    refine RunA.one (i := 4) (by kernel_rfl) (by kernel_rfl) ?_
    refine RunI.new rfl (New.alloc zero_41) rfl rfl rfl (fun b16 => (RunK.toA (.cons (.there (.there .here)) rfl (.cons (.there (.there .here)) rfl (.cons (.there (.there .here)) rfl (.cons (.there (.there .here)) rfl (.cons (.there (.there .here)) rfl (.cons (.there (.there .here)) rfl .nil)))))) (.cons .here rfl (.cons .here rfl (.cons .here rfl (.cons .here rfl (.cons .here rfl (.cons .here rfl .nil)))))) rfl ?_))
    refine RunA.one (i := 6) (by kernel_rfl) (by kernel_rfl) ?_
    refine RunI.sto rfl (Sto.store rfl rfl (.there .here) ty_34 rfl rfl) rfl rfl (RunK.toA (.cons (.there (.there .here)) rfl (.cons (.there (.there .here)) rfl (.cons (.there (.there .here)) rfl (.cons (.there (.there .here)) rfl (.cons (.there (.there .here)) rfl (.cons (.there (.there .here)) rfl .nil)))))) (.cons .here rfl (.cons .here rfl (.cons .here rfl (.cons .here rfl (.cons .here rfl (.cons .here rfl .nil)))))) rfl ?_)
    refine RunA.one (i := 7) (by kernel_rfl) (by kernel_rfl) ?_
    refine RunI.sto rfl (Sto.store rfl rfl .here ty_41 rfl rfl) rfl rfl (RunK.toA (.cons (.there (.there .here)) rfl (.cons (.there (.there .here)) rfl (.cons (.there (.there .here)) rfl (.cons (.there (.there .here)) rfl (.cons (.there (.there .here)) rfl (.cons (.there (.there .here)) rfl .nil)))))) (.cons .here rfl (.cons .here rfl (.cons .here rfl (.cons .here rfl (.cons .here rfl (.cons .here rfl .nil)))))) rfl ?_)
    refine RunA.toB (by kernel_rfl) ?_
    refine RunB.one (i := 8) (by kernel_rfl) ?_
    refine RunI.sto rfl (Sto.store rfl rfl (.there (.there .here)) ty_48 rfl rfl) rfl rfl (RunK.toB ?_)
    refine RunB.done (by kernel_rfl) ?_
    exact RunE.join3 b15 b16 b17 (Sub.cons (t := 17) rfl (Sub.cons (t := 16) rfl (Sub.cons (t := 15) rfl (Sub.cons (t := 38) rfl (Sub.cons (t := 37) rfl (Sub.cons (t := 36) rfl (Sub.skip rfl (Sub.skip rfl (Sub.skip rfl (Sub.skip rfl (Sub.skip rfl (Sub.skip rfl (Sub.refl _))))))))))))) (.cons (.there (.there .here)) rfl (.cons .here rfl (.cons .here rfl (.cons .here rfl (.cons .here rfl (.cons .here rfl (.cons .here rfl (.cons .here rfl .nil))))))))
   refine RunI.new rfl (New.alloc zero_41) rfl rfl rfl (fun b16 => (RunK.toA (.cons (.there .here) rfl (.cons (.there .here) rfl (.cons (.there .here) rfl (.cons (.there .here) rfl (.cons (.there .here) rfl (.cons (.there .here) rfl .nil)))))) (.cons .here rfl (.cons .here rfl (.cons .here rfl (.cons .here rfl (.cons .here rfl (.cons .here rfl .nil)))))) rfl ?_))
   refine RunA.one (i := 3) (by kernel_rfl) (by kernel_rfl) ?_
   refine RunI.new rfl (New.alloc zero_34) rfl rfl rfl (fun b15 => (RunK.toA (.cons (.there (.there .here)) rfl (.cons (.there (.there .here)) rfl (.cons (.there (.there .here)) rfl (.cons (.there (.there .here)) rfl (.cons (.there (.there .here)) rfl (.cons (.there (.there .here)) rfl .nil)))))) (.cons .here rfl (.cons .here rfl (.cons .here rfl (.cons .here rfl (.cons .here rfl (.cons .here rfl .nil)))))) rfl ?_))
   refine RunA.one (i := 6) (by kernel_rfl) (by kernel_rfl) ?_
   refine RunI.sto rfl (Sto.store rfl rfl .here ty_34 rfl rfl) rfl rfl (RunK.toA (.cons (.there (.there .here)) rfl (.cons (.there (.there .here)) rfl (.cons (.there (.there .here)) rfl (.cons (.there (.there .here)) rfl (.cons (.there (.there .here)) rfl (.cons (.there (.there .here)) rfl .nil)))))) (.cons .here rfl (.cons .here rfl (.cons .here rfl (.cons .here rfl (.cons .here rfl (.cons .here rfl .nil)))))) rfl ?_)
   refine RunA.one (i := 7) (by kernel_rfl) (by kernel_rfl) ?_
   refine RunI.sto rfl (Sto.store rfl rfl (.there .here) ty_41 rfl rfl) rfl rfl (RunK.toA (.cons (.there (.there .here)) rfl (.cons (.there (.there .here)) rfl (.cons (.there (.there .here)) rfl (.cons (.there (.there .here)) rfl (.cons (.there (.there .here)) rfl (.cons (.there (.there .here)) rfl .nil)))))) (.cons .here rfl (.cons .here rfl (.cons .here rfl (.cons .here rfl (.cons .here rfl (.cons .here rfl .nil)))))) rfl ?_)
   refine RunA.toB (by kernel_rfl) ?_
   refine RunB.one (i := 8) (by kernel_rfl) ?_
   refine RunI.sto rfl (Sto.store rfl rfl (.there (.there .here)) ty_48 rfl rfl) rfl rfl (RunK.toB ?_)
   refine RunB.done (by kernel_rfl) ?_
   exact RunE.join3 b15 b16 b17 (Sub.cons (t := 17) rfl (Sub.cons (t := 16) rfl (Sub.cons (t := 15) rfl (Sub.cons (t := 38) rfl (Sub.cons (t := 37) rfl (Sub.cons (t := 36) rfl (Sub.skip rfl (Sub.skip rfl (Sub.skip rfl (Sub.skip rfl (Sub.skip rfl (Sub.skip rfl (Sub.refl _))))))))))))) (.cons (.there (.there .here)) rfl (.cons (.there .here) rfl (.cons .here rfl (.cons .here rfl (.cons .here rfl (.cons .here rfl (.cons .here rfl (.cons .here rfl .nil))))))))
  refine J3.out (fun b15 b16 b17 => ?_)
  refine RunE.next ?_
  refine RunC.seq ?_
  refine RunC.drawX (X := Eng.Own × Eng.Own) 15 (n0 := [(b17, _), (b7, _), (b8, _), (b9, _)]) (fun o q => (15, .pointer (some ⟨b15, 0, none⟩)) :: (16, .pointer (some ⟨b16, 0, none⟩)) :: q) (fun o => []) (fun o => [(b15, .cells [.int .i64 c.slots, c.homes.v, .int .i64 c.wrong, ownV o.1 (c.loans.l ++ [l]).length].toArray 34 (0, 0)), (b16, .cells [r.terms.v, r.prices.v, r.shares.v, ownV o.2 (r.reports.l ++ [q]).length, r.paid.v].toArray 41 (0, 0))]) (fun o => (ownB 74 o.1 ((c.loans.l ++ [l]).map Ln.cells).flatten ++ (ownB 76 o.2 ((r.reports.l ++ [q]).map Rp.cells).flatten ++ []))) (fun o => OL.ok (o.1, c.loans.l ++ [l]) Ln.cells 4 ∧ OL.ok (o.2, r.reports.l ++ [q]) Rp.cells 4) fol_ (.cons .here rfl (.cons .here rfl (.cons .here rfl (.cons .here rfl (.cons .here rfl (.cons .here rfl (.cons .here rfl (.cons .here rfl .nil)))))))) (Sub.cons (t := 5) rfl (Sub.cons (t := 6) rfl (Sub.cons (t := 7) rfl (Sub.cons (t := 8) rfl (Sub.cons (t := 9) rfl (Sub.cons (t := 17) rfl (Sub.nil _))))))) (.cons .here rfl (.cons (.there (.there (.there (.there (.there (.there .here)))))) rfl (.cons (.there (.there (.there (.there (.there .here))))) rfl (.cons (.there (.there (.there (.there .here)))) rfl .nil)))) ?_ ?_
  ·refine va 1 rfl (Val.fieldAddr rfl fld_34_3) rfl rfl rfl (.cons .here rfl (.cons .here rfl (.cons .here rfl (.cons .here rfl (.cons .here rfl (.cons .here rfl (.cons .here rfl (.cons .here rfl .nil)))))))) rfl ?_
   refine va 2 rfl (Val.load_one rfl (.tail _ (.tail _ (.tail _ (.tail _ (.tail _ (.tail _ (.tail _ (.head _)))))))) ty_32 rfl) rfl rfl rfl (.cons .here rfl (.cons .here rfl (.cons .here rfl (.cons .here rfl (.cons .here rfl (.cons .here rfl (.cons .here rfl (.cons .here rfl .nil)))))))) rfl ?_
   refine va 4 rfl (Val.load_agg rfl (.tail _ (.tail _ (.tail _ (.tail _ (.head _))))) ty_74 rfl) rfl rfl rfl (.cons .here rfl (.cons .here rfl (.cons .here rfl (.cons .here rfl (.cons .here rfl (.cons .here rfl (.cons .here rfl (.cons .here rfl .nil)))))))) rfl ?_
   refine va 8 rfl (Val.fieldAddr rfl fld_41_3) rfl rfl rfl (.cons .here rfl (.cons .here rfl (.cons .here rfl (.cons .here rfl (.cons .here rfl (.cons .here rfl (.cons .here rfl (.cons .here rfl .nil)))))))) rfl ?_
   refine va 9 rfl (Val.load_one rfl (.tail _ (.tail _ (.tail _ (.tail _ (.tail _ (.tail _ (.head _))))))) ty_39 rfl) rfl rfl rfl (.cons .here rfl (.cons .here rfl (.cons .here rfl (.cons .here rfl (.cons .here rfl (.cons .here rfl (.cons .here rfl (.cons .here rfl .nil)))))))) rfl ?_
   refine va 11 rfl (Val.load_agg rfl (.tail _ (.tail _ (.tail _ (.head _)))) ty_76 rfl) rfl rfl rfl (.cons .here rfl (.cons .here rfl (.cons .here rfl (.cons .here rfl (.cons .here rfl (.cons .here rfl (.cons .here rfl (.cons .here rfl .nil)))))))) rfl ?_
   refine RunA.asG (fun G r1 n1 hr1 hn1 hG => ?_)
   have hN0 : ∀ (z52 : Eng.Own) (hz52 : OwnOk 4 z52 (0 + r.reports.l.length + 1) ([] ++ (r.reports.l.map Rp.cells).flatten ++ q.cells)) (b51 : Nat) (z45 : Eng.Own) (hz45 : OwnOk 4 z45 (0 + c.loans.l.length + 1) ([] ++ (c.loans.l.map Ln.cells).flatten ++ l.cells)) (b44 : Nat), G 3 #[true, true, true, true, true, true, true, true, true, true, true, true, true, true, true, false, false, false] ((52, ownV z52 (0 + r.reports.l.length + 1)) :: (51, .slice (some ⟨b51, 0, none⟩) 1 1) :: (45, ownV z45 (0 + c.loans.l.length + 1)) :: (44, .slice (some ⟨b44, 0, none⟩) 1 1) :: (53, .pointer (some ⟨b15, 0 + 3, none⟩)) :: r1) ((b51, .cells q.cells.toArray 76 (0, 0)) :: (b44, .cells l.cells.toArray 74 (0, 0)) :: (n1 ++ (ownB 76 z52 ([] ++ (r.reports.l.map Rp.cells).flatten ++ q.cells) ++ (ownB 74 z45 ([] ++ (c.loans.l.map Ln.cells).flatten ++ l.cells) ++ [])))) := by
     intro z52 hz52 b51 z45 hz45 b44
     subst hr1 hn1
     rw [hG]
     refine RunA.toB (by kernel_rfl) ?_
     refine RunB.one (i := 15) (by kernel_rfl) ?_
     refine RunI.sto rfl (Sto.storeOwn rfl rfl (.there (.there (.there (.there .here)))) ty_32 rfl rfl) rfl rfl (RunK.toB ?_)
     refine RunB.one (i := 16) (by kernel_rfl) ?_
     refine RunI.val rfl (Val.fieldAddr rfl fld_41_3) rfl rfl rfl (RunK.toB ?_)
     refine RunB.one (i := 17) (by kernel_rfl) ?_
     refine RunI.sto rfl (Sto.storeOwn rfl rfl (.there (.there (.there .here))) ty_39 rfl rfl) rfl rfl (RunK.toB ?_)
     refine RunB.done (by kernel_rfl) ?_
     exact RunE.joinX (z45, z52) ⟨(by rw [Nat.zero_add] at hz45; exact ol_snoc (z := z45) (f := Ln.cells) hz45), (by rw [Nat.zero_add] at hz52; exact ol_snoc (z := z52) (f := Rp.cells) hz52)⟩ rfl (Sub.consE (t := 15) rfl rfl (Sub.consE (t := 16) rfl rfl (Sub.cons (t := 5) rfl (Sub.cons (t := 6) rfl (Sub.cons (t := 7) rfl (Sub.cons (t := 8) rfl (Sub.cons (t := 9) rfl (Sub.cons (t := 17) rfl (Sub.nil _))))))))) (.cons (.there (.there (.there (.there .here)))) (by simp) (.cons (.there (.there (.there .here))) (by simp) (.cons (.there (.there .here)) rfl (.cons (.there (.there (.there (.there (.there (.there .here)))))) rfl (.cons (.there (.there (.there (.there (.there .here))))) rfl (.cons (.there (.there (.there (.there .here)))) rfl (Pick.cnt fun x => by simp only [nC, List.nil_append, snoc_flat, ownB_some]; omega)))))))
   have hN1 : ∀ (b51 : Nat) (z49 : Eng.Own) (hz49 : OwnOk 4 z49 (0 + r.reports.l.length) ([] ++ (r.reports.l.map Rp.cells).flatten)) (z45 : Eng.Own) (hz45 : OwnOk 4 z45 (0 + c.loans.l.length + 1) ([] ++ (c.loans.l.map Ln.cells).flatten ++ l.cells)) (b44 : Nat), G 4 #[true, true, true, true, true, true, true, true, true, true, true, true, true, false, true, false, false, false] ((51, .slice (some ⟨b51, 0, none⟩) 1 1) :: (49, ownV z49 (0 + r.reports.l.length)) :: (45, ownV z45 (0 + c.loans.l.length + 1)) :: (44, .slice (some ⟨b44, 0, none⟩) 1 1) :: (53, .pointer (some ⟨b15, 0 + 3, none⟩)) :: r1) ((b51, .cells q.cells.toArray 76 (0, 0)) :: (b44, .cells l.cells.toArray 74 (0, 0)) :: (n1 ++ (ownB 76 z49 ([] ++ (r.reports.l.map Rp.cells).flatten) ++ (ownB 74 z45 ([] ++ (c.loans.l.map Ln.cells).flatten ++ l.cells) ++ [])))) := by
     intro b51 z49 hz49 z45 hz45 b44
     subst hr1 hn1
     rw [hG]
     refine RunA.one (i := 13) (by kernel_rfl) (by kernel_rfl) ?_
     refine RunI.append (A := [(b51, _), (b44, _), (b17, _), (b16, _), (b15, _), (b11, _), (b10, _), (b9, _), (b8, _), (b7, _)]) (B := _) (x := z49) (ys := q.cells) rfl ap_39 rfl rfl rfl hz49 rfl (fun h => by cases h) (fun w hm => src_blk (hm.at (.head _))) (one_of rfl) (by simp only [maxLen]; omega) (by omega) rfl (fun z52 hz52 => (RunK.toA (.cons (.there (.there .here)) rfl (.cons (.there (.there .here)) rfl (.cons (.there (.there .here)) rfl (.cons (.there (.there .here)) rfl (.cons (.there (.there .here)) rfl (.cons (.there (.there .here)) rfl (.cons (.there (.there .here)) rfl (.cons (.there (.there .here)) rfl .nil)))))))) (.cons .here rfl (.cons .here rfl (.cons .here rfl (.cons .here rfl (.cons .here rfl (.cons .here rfl (.cons .here rfl (.cons .here rfl .nil)))))))) rfl ?_))
     have h9 := hN0 z52 hz52 b51 z45 hz45 b44
     rw [hG] at h9
     exact RunA.keepR h9 (Sub.cons (t := 52) rfl (Sub.cons (t := 51) rfl (Sub.cons (t := 45) rfl (Sub.cons (t := 44) rfl (Sub.cons (t := 53) rfl (Sub.skip rfl (Sub.skip rfl (Sub.skip rfl (Sub.skip rfl (Sub.skip rfl (Sub.skip rfl (Sub.refl _)))))))))))) (.cons .here rfl (.cons .here rfl (.cons .here rfl (.cons .here rfl (.cons .here rfl (.cons .here rfl (.cons .here rfl (.cons .here rfl (.cons .here rfl (.cons .here rfl (Pick.refl _))))))))))) (by kernel_rfl)
   have hN2 : ∀ (z49 : Eng.Own) (hz49 : OwnOk 4 z49 (0 + r.reports.l.length) ([] ++ (r.reports.l.map Rp.cells).flatten)) (z45 : Eng.Own) (hz45 : OwnOk 4 z45 (0 + c.loans.l.length + 1) ([] ++ (c.loans.l.map Ln.cells).flatten ++ l.cells)) (b44 : Nat), G 5 #[true, true, true, true, true, true, true, true, true, true, true, true, false, false, true, false, false, false] ((49, ownV z49 (0 + r.reports.l.length)) :: (45, ownV z45 (0 + c.loans.l.length + 1)) :: (44, .slice (some ⟨b44, 0, none⟩) 1 1) :: (53, .pointer (some ⟨b15, 0 + 3, none⟩)) :: r1) ((b44, .cells l.cells.toArray 74 (0, 0)) :: (n1 ++ (ownB 76 z49 ([] ++ (r.reports.l.map Rp.cells).flatten) ++ (ownB 74 z45 ([] ++ (c.loans.l.map Ln.cells).flatten ++ l.cells) ++ [])))) := by
     intro z49 hz49 z45 hz45 b44
     subst hr1 hn1
     rw [hG]
     refine RunA.one (i := 12) (by kernel_rfl) (by kernel_rfl) ?_
     refine RunI.new rfl (New.buildSlice (parts := [(0, .tmp 50)]) rfl sl_39 zero_76 rfl rfl rfl rfl) rfl rfl rfl (fun b51 => (RunK.toA (.cons (.there (.there .here)) rfl (.cons (.there (.there .here)) rfl (.cons (.there (.there .here)) rfl (.cons (.there (.there .here)) rfl (.cons (.there (.there .here)) rfl (.cons (.there (.there .here)) rfl (.cons (.there (.there .here)) rfl (.cons (.there (.there .here)) rfl .nil)))))))) (.cons .here rfl (.cons .here rfl (.cons .here rfl (.cons .here rfl (.cons .here rfl (.cons .here rfl (.cons .here rfl (.cons .here rfl .nil)))))))) rfl ?_))
     have h9 := hN1 b51 z49 hz49 z45 hz45 b44
     rw [hG] at h9
     exact RunA.keepR h9 (Sub.cons (t := 51) rfl (Sub.cons (t := 49) rfl (Sub.cons (t := 45) rfl (Sub.cons (t := 44) rfl (Sub.cons (t := 53) rfl (Sub.skip rfl (Sub.skip rfl (Sub.skip rfl (Sub.skip rfl (Sub.skip rfl (Sub.refl _))))))))))) (.cons .here rfl (.cons .here rfl (.cons .here rfl (.cons .here rfl (.cons .here rfl (.cons .here rfl (.cons .here rfl (.cons .here rfl (.cons .here rfl (.cons .here rfl (Pick.refl _))))))))))) (by kernel_rfl)
   have hN3 : ∀ (b51 : Nat) (b46 : Nat) (z45 : Eng.Own) (hz45 : OwnOk 4 z45 (0 + c.loans.l.length + 1) ([] ++ (c.loans.l.map Ln.cells).flatten ++ l.cells)) (b44 : Nat), G 5 #[true, true, true, true, true, true, true, true, true, true, false, true, true, false, true, false, false, false] ((51, .slice (some ⟨b51, 0, none⟩) 1 1) :: (46, .slice (some ⟨b46, 0, none⟩) 0 0) :: (45, ownV z45 (0 + c.loans.l.length + 1)) :: (44, .slice (some ⟨b44, 0, none⟩) 1 1) :: (53, .pointer (some ⟨b15, 0 + 3, none⟩)) :: r1) ((b51, .cells q.cells.toArray 76 (0, 0)) :: (b46, .cells [].toArray 76 (0, 0)) :: (b44, .cells l.cells.toArray 74 (0, 0)) :: (n1 ++ (ownB 74 z45 ([] ++ (c.loans.l.map Ln.cells).flatten ++ l.cells) ++ []))) := by
     intro b51 b46 z45 hz45 b44
     subst hr1 hn1
     rw [hG]
     refine RunA.one (i := 10) (by kernel_rfl) (by kernel_rfl) ?_
     refine RunI.keep (Sub.refl _) (.cons .here rfl (.cons (.there .here) rfl (.cons (.there .here) rfl (.cons (.there .here) rfl (.cons (.there .here) rfl (.cons (.there .here) rfl (.cons (.there .here) rfl (.cons (.there .here) rfl (.cons (.there .here) rfl (.cons (.there .here) rfl (.cons .here rfl (Pick.refl _)))))))))))) ?_
     refine RunI.append (A := [(b51, _), (b44, _), (b17, _), (b16, _), (b15, _), (b11, _), (b10, _), (b9, _), (b8, _), (b7, _)]) (B := _) (x := (some (b46, 0, []))) (ys := (r.reports.l.map Rp.cells).flatten) rfl ap_39 rfl rfl rfl OwnOk.empty rp_len hrq (fun w hm => sa_src (by decide) hR.reports hm) rp_one (by simp only [maxLen]; omega) (by omega) rfl (fun z49 hz49 => (RunK.toA (.cons (.there (.there .here)) rfl (.cons (.there (.there .here)) rfl (.cons (.there (.there .here)) rfl (.cons (.there (.there .here)) rfl (.cons (.there (.there .here)) rfl (.cons (.there (.there .here)) rfl (.cons (.there (.there .here)) rfl (.cons (.there (.there .here)) rfl .nil)))))))) (.cons .here rfl (.cons .here rfl (.cons .here rfl (.cons .here rfl (.cons .here rfl (.cons .here rfl (.cons .here rfl (.cons .here rfl .nil)))))))) rfl ?_))
     have h9 := hN1 b51 z49 hz49 z45 hz45 b44
     rw [hG] at h9
     exact RunA.keepR h9 (Sub.cons (t := 51) rfl (Sub.cons (t := 49) rfl (Sub.cons (t := 45) rfl (Sub.cons (t := 44) rfl (Sub.cons (t := 53) rfl (Sub.skip rfl (Sub.skip rfl (Sub.skip rfl (Sub.skip rfl (Sub.skip rfl (Sub.skip rfl (Sub.refl _)))))))))))) (.cons .here rfl (.cons .here rfl (.cons .here rfl (.cons .here rfl (.cons .here rfl (.cons .here rfl (.cons .here rfl (.cons .here rfl (.cons .here rfl (.cons .here rfl (Pick.refl _))))))))))) (by kernel_rfl)
   have hN4 : ∀ (b46 : Nat) (z45 : Eng.Own) (hz45 : OwnOk 4 z45 (0 + c.loans.l.length + 1) ([] ++ (c.loans.l.map Ln.cells).flatten ++ l.cells)) (b44 : Nat), G 6 #[true, true, true, true, true, true, true, true, true, true, false, true, false, false, true, false, false, false] ((46, .slice (some ⟨b46, 0, none⟩) 0 0) :: (45, ownV z45 (0 + c.loans.l.length + 1)) :: (44, .slice (some ⟨b44, 0, none⟩) 1 1) :: (53, .pointer (some ⟨b15, 0 + 3, none⟩)) :: r1) ((b46, .cells [].toArray 76 (0, 0)) :: (b44, .cells l.cells.toArray 74 (0, 0)) :: (n1 ++ (ownB 74 z45 ([] ++ (c.loans.l.map Ln.cells).flatten ++ l.cells) ++ []))) := by
     intro b46 z45 hz45 b44
     subst hr1 hn1
     rw [hG]
     refine RunA.all (rs := [10, 12]) (by kernel_rfl) (by simp) (by kernel_rfl) (fun m hm => ?_)
     simp only [List.mem_cons, List.not_mem_nil, or_false] at hm
     rcases hm with rfl | rfl
     · refine RunI.keep (Sub.refl _) (.cons (.there .here) rfl (.cons (.there .here) rfl (.cons (.there .here) rfl (.cons (.there .here) rfl (.cons (.there .here) rfl (.cons (.there .here) rfl (.cons (.there .here) rfl (.cons (.there .here) rfl (.cons (.there .here) rfl (.cons .here rfl (Pick.refl _))))))))))) ?_
       refine RunI.append (A := [(b44, _), (b17, _), (b16, _), (b15, _), (b11, _), (b10, _), (b9, _), (b8, _), (b7, _)]) (B := _) (x := (some (b46, 0, []))) (ys := (r.reports.l.map Rp.cells).flatten) rfl ap_39 rfl rfl rfl OwnOk.empty rp_len hrq (fun w hm => sa_src (by decide) hR.reports hm) rp_one (by simp only [maxLen]; omega) (by omega) rfl (fun z49 hz49 => (RunK.toA (.cons (.there .here) rfl (.cons (.there .here) rfl (.cons (.there .here) rfl (.cons (.there .here) rfl (.cons (.there .here) rfl (.cons (.there .here) rfl (.cons (.there .here) rfl (.cons (.there .here) rfl .nil)))))))) (.cons .here rfl (.cons .here rfl (.cons .here rfl (.cons .here rfl (.cons .here rfl (.cons .here rfl (.cons .here rfl (.cons .here rfl .nil)))))))) rfl ?_))
       have h9 := hN2 z49 hz49 z45 hz45 b44
       rw [hG] at h9
       exact RunA.keepR h9 (Sub.cons (t := 49) rfl (Sub.cons (t := 45) rfl (Sub.cons (t := 44) rfl (Sub.cons (t := 53) rfl (Sub.skip rfl (Sub.skip rfl (Sub.skip rfl (Sub.skip rfl (Sub.skip rfl (Sub.refl _)))))))))) (.cons .here rfl (.cons .here rfl (.cons .here rfl (.cons .here rfl (.cons .here rfl (.cons .here rfl (.cons .here rfl (.cons .here rfl (.cons .here rfl (Pick.refl _)))))))))) (by kernel_rfl)
     · refine RunI.new rfl (New.buildSlice (parts := [(0, .tmp 50)]) rfl sl_39 zero_76 rfl rfl rfl rfl) rfl rfl rfl (fun b51 => (RunK.toA (.cons (.there (.there (.there .here))) rfl (.cons (.there (.there (.there .here))) rfl (.cons (.there (.there (.there .here))) rfl (.cons (.there (.there (.there .here))) rfl (.cons (.there (.there (.there .here))) rfl (.cons (.there (.there (.there .here))) rfl (.cons (.there (.there (.there .here))) rfl (.cons (.there (.there (.there .here))) rfl .nil)))))))) (.cons .here rfl (.cons .here rfl (.cons .here rfl (.cons .here rfl (.cons .here rfl (.cons .here rfl (.cons .here rfl (.cons .here rfl .nil)))))))) rfl ?_))
       have h9 := hN3 b51 b46 z45 hz45 b44
       rw [hG] at h9
       exact RunA.keepR h9 (Sub.cons (t := 51) rfl (Sub.cons (t := 46) rfl (Sub.cons (t := 45) rfl (Sub.cons (t := 44) rfl (Sub.cons (t := 53) rfl (Sub.skip rfl (Sub.skip rfl (Sub.skip rfl (Sub.skip rfl (Sub.skip rfl (Sub.refl _))))))))))) (.cons .here rfl (.cons .here rfl (.cons .here rfl (.cons .here rfl (.cons .here rfl (.cons .here rfl (.cons .here rfl (.cons .here rfl (.cons .here rfl (.cons .here rfl (.cons .here rfl (Pick.refl _)))))))))))) (by kernel_rfl)
   have hN5 : ∀ (b51 : Nat) (z45 : Eng.Own) (hz45 : OwnOk 4 z45 (0 + c.loans.l.length + 1) ([] ++ (c.loans.l.map Ln.cells).flatten ++ l.cells)) (b44 : Nat), G 6 #[true, true, true, true, true, true, true, false, true, true, false, true, true, false, true, false, false, false] ((51, .slice (some ⟨b51, 0, none⟩) 1 1) :: (45, ownV z45 (0 + c.loans.l.length + 1)) :: (44, .slice (some ⟨b44, 0, none⟩) 1 1) :: (53, .pointer (some ⟨b15, 0 + 3, none⟩)) :: r1) ((b51, .cells q.cells.toArray 76 (0, 0)) :: (b44, .cells l.cells.toArray 74 (0, 0)) :: (n1 ++ (ownB 74 z45 ([] ++ (c.loans.l.map Ln.cells).flatten ++ l.cells) ++ []))) := by
     intro b51 z45 hz45 b44
     subst hr1 hn1
     rw [hG]
     refine RunA.one (i := 7) (by kernel_rfl) (by kernel_rfl) ?_
     refine RunI.new rfl (New.buildSlice0 sl_39) rfl rfl rfl (fun b46 => (RunK.toA (.cons (.there (.there (.there .here))) rfl (.cons (.there (.there (.there .here))) rfl (.cons (.there (.there (.there .here))) rfl (.cons (.there (.there (.there .here))) rfl (.cons (.there (.there (.there .here))) rfl (.cons (.there (.there (.there .here))) rfl (.cons (.there (.there (.there .here))) rfl (.cons (.there (.there (.there .here))) rfl .nil)))))))) (.cons .here rfl (.cons .here rfl (.cons .here rfl (.cons .here rfl (.cons .here rfl (.cons .here rfl (.cons .here rfl (.cons .here rfl .nil)))))))) rfl ?_))
     have h9 := hN3 b51 b46 z45 hz45 b44
     rw [hG] at h9
     exact RunA.keepR h9 (Sub.cons (t := 51) rfl (Sub.cons (t := 46) rfl (Sub.cons (t := 45) rfl (Sub.cons (t := 44) rfl (Sub.cons (t := 53) rfl (Sub.skip rfl (Sub.skip rfl (Sub.skip rfl (Sub.skip rfl (Sub.skip rfl (Sub.refl _))))))))))) (.cons (.there .here) rfl (.cons .here rfl (.cons .here rfl (.cons .here rfl (.cons .here rfl (.cons .here rfl (.cons .here rfl (.cons .here rfl (.cons .here rfl (.cons .here rfl (.cons .here rfl (Pick.refl _)))))))))))) (by kernel_rfl)
   have hN6 : ∀ (b51 : Nat) (b46 : Nat) (b44 : Nat) (z42 : Eng.Own) (hz42 : OwnOk 4 z42 (0 + c.loans.l.length) ([] ++ (c.loans.l.map Ln.cells).flatten)), G 7 #[true, true, true, true, true, true, false, true, true, true, false, true, true, false, false, false, false, false] ((51, .slice (some ⟨b51, 0, none⟩) 1 1) :: (46, .slice (some ⟨b46, 0, none⟩) 0 0) :: (44, .slice (some ⟨b44, 0, none⟩) 1 1) :: (42, ownV z42 (0 + c.loans.l.length)) :: r1) ((b51, .cells q.cells.toArray 76 (0, 0)) :: (b46, .cells [].toArray 76 (0, 0)) :: (b44, .cells l.cells.toArray 74 (0, 0)) :: (n1 ++ (ownB 74 z42 ([] ++ (c.loans.l.map Ln.cells).flatten) ++ []))) := by
     intro b51 b46 b44 z42 hz42
     subst hr1 hn1
     rw [hG]
     refine RunA.one (i := 6) (by kernel_rfl) (by kernel_rfl) ?_
     refine RunI.append (A := [(b51, _), (b46, _), (b44, _), (b17, _), (b16, _), (b15, _), (b11, _), (b10, _), (b9, _), (b8, _), (b7, _)]) (B := _) (x := z42) (ys := l.cells) rfl ap_32 rfl rfl rfl hz42 rfl (fun h => by cases h) (fun w hm => src_blk (hm.at (.tail _ (.tail _ (.head _))))) (one_of rfl) (by simp only [maxLen]; omega) (by omega) rfl (fun z45 hz45 => (RunK.toA (.cons (.there (.there (.there .here))) rfl (.cons (.there (.there (.there .here))) rfl (.cons (.there (.there (.there .here))) rfl (.cons (.there (.there (.there .here))) rfl (.cons (.there (.there (.there .here))) rfl (.cons (.there (.there (.there .here))) rfl (.cons (.there (.there (.there .here))) rfl (.cons (.there (.there (.there .here))) rfl .nil)))))))) (.cons .here rfl (.cons .here rfl (.cons .here rfl (.cons .here rfl (.cons .here rfl (.cons .here rfl (.cons .here rfl (.cons .here rfl .nil)))))))) rfl ?_))
     refine va 14 rfl (Val.fieldAddr rfl fld_34_3) rfl rfl rfl (.cons (.there (.there (.there .here))) rfl (.cons (.there (.there (.there .here))) rfl (.cons (.there (.there (.there .here))) rfl (.cons (.there (.there (.there .here))) rfl (.cons (.there (.there (.there .here))) rfl (.cons (.there (.there (.there .here))) rfl (.cons (.there (.there (.there .here))) rfl (.cons (.there (.there (.there .here))) rfl .nil)))))))) rfl ?_
     have h9 := hN3 b51 b46 z45 hz45 b44
     rw [hG] at h9
     exact RunA.keepR h9 (Sub.cons (t := 51) rfl (Sub.cons (t := 46) rfl (Sub.cons (t := 45) rfl (Sub.cons (t := 44) rfl (Sub.cons (t := 53) rfl (Sub.skip rfl (Sub.skip rfl (Sub.skip rfl (Sub.skip rfl (Sub.skip rfl (Sub.skip rfl (Sub.refl _)))))))))))) (.cons .here rfl (.cons .here rfl (.cons .here rfl (.cons .here rfl (.cons .here rfl (.cons .here rfl (.cons .here rfl (.cons .here rfl (.cons .here rfl (.cons .here rfl (.cons .here rfl (Pick.refl _)))))))))))) (by kernel_rfl)
   have hN7 : ∀ (z45 : Eng.Own) (hz45 : OwnOk 4 z45 (0 + c.loans.l.length + 1) ([] ++ (c.loans.l.map Ln.cells).flatten ++ l.cells)) (b44 : Nat), G 7 #[true, true, true, true, true, true, true, false, true, true, false, true, false, false, true, false, false, false] ((45, ownV z45 (0 + c.loans.l.length + 1)) :: (44, .slice (some ⟨b44, 0, none⟩) 1 1) :: (53, .pointer (some ⟨b15, 0 + 3, none⟩)) :: r1) ((b44, .cells l.cells.toArray 74 (0, 0)) :: (n1 ++ (ownB 74 z45 ([] ++ (c.loans.l.map Ln.cells).flatten ++ l.cells) ++ []))) := by
     intro z45 hz45 b44
     subst hr1 hn1
     rw [hG]
     refine RunA.all (rs := [7, 12]) (by kernel_rfl) (by simp) (by kernel_rfl) (fun m hm => ?_)
     simp only [List.mem_cons, List.not_mem_nil, or_false] at hm
     rcases hm with rfl | rfl
     · refine RunI.new rfl (New.buildSlice0 sl_39) rfl rfl rfl (fun b46 => (RunK.toA (.cons (.there (.there .here)) rfl (.cons (.there (.there .here)) rfl (.cons (.there (.there .here)) rfl (.cons (.there (.there .here)) rfl (.cons (.there (.there .here)) rfl (.cons (.there (.there .here)) rfl (.cons (.there (.there .here)) rfl (.cons (.there (.there .here)) rfl .nil)))))))) (.cons .here rfl (.cons .here rfl (.cons .here rfl (.cons .here rfl (.cons .here rfl (.cons .here rfl (.cons .here rfl (.cons .here rfl .nil)))))))) rfl ?_))
       have h9 := hN4 b46 z45 hz45 b44
       rw [hG] at h9
       exact RunA.keepR h9 (Sub.cons (t := 46) rfl (Sub.cons (t := 45) rfl (Sub.cons (t := 44) rfl (Sub.cons (t := 53) rfl (Sub.skip rfl (Sub.skip rfl (Sub.skip rfl (Sub.skip rfl (Sub.refl _))))))))) (.cons .here rfl (.cons .here rfl (.cons .here rfl (.cons .here rfl (.cons .here rfl (.cons .here rfl (.cons .here rfl (.cons .here rfl (.cons .here rfl (.cons .here rfl (Pick.refl _))))))))))) (by kernel_rfl)
     · refine RunI.new rfl (New.buildSlice (parts := [(0, .tmp 50)]) rfl sl_39 zero_76 rfl rfl rfl rfl) rfl rfl rfl (fun b51 => (RunK.toA (.cons (.there (.there .here)) rfl (.cons (.there (.there .here)) rfl (.cons (.there (.there .here)) rfl (.cons (.there (.there .here)) rfl (.cons (.there (.there .here)) rfl (.cons (.there (.there .here)) rfl (.cons (.there (.there .here)) rfl (.cons (.there (.there .here)) rfl .nil)))))))) (.cons .here rfl (.cons .here rfl (.cons .here rfl (.cons .here rfl (.cons .here rfl (.cons .here rfl (.cons .here rfl (.cons .here rfl .nil)))))))) rfl ?_))
       have h9 := hN5 b51 z45 hz45 b44
       rw [hG] at h9
       exact RunA.keepR h9 (Sub.cons (t := 51) rfl (Sub.cons (t := 45) rfl (Sub.cons (t := 44) rfl (Sub.cons (t := 53) rfl (Sub.skip rfl (Sub.skip rfl (Sub.skip rfl (Sub.skip rfl (Sub.refl _))))))))) (.cons .here rfl (.cons .here rfl (.cons .here rfl (.cons .here rfl (.cons .here rfl (.cons .here rfl (.cons .here rfl (.cons .here rfl (.cons .here rfl (.cons .here rfl (Pick.refl _))))))))))) (by kernel_rfl)
   have hN8 : ∀ (b46 : Nat) (b44 : Nat) (z42 : Eng.Own) (hz42 : OwnOk 4 z42 (0 + c.loans.l.length) ([] ++ (c.loans.l.map Ln.cells).flatten)), G 8 #[true, true, true, true, true, true, false, true, true, true, false, true, false, false, false, false, false, false] ((46, .slice (some ⟨b46, 0, none⟩) 0 0) :: (44, .slice (some ⟨b44, 0, none⟩) 1 1) :: (42, ownV z42 (0 + c.loans.l.length)) :: r1) ((b46, .cells [].toArray 76 (0, 0)) :: (b44, .cells l.cells.toArray 74 (0, 0)) :: (n1 ++ (ownB 74 z42 ([] ++ (c.loans.l.map Ln.cells).flatten) ++ []))) := by
     intro b46 b44 z42 hz42
     subst hr1 hn1
     rw [hG]
     refine RunA.all (rs := [6, 12]) (by kernel_rfl) (by simp) (by kernel_rfl) (fun m hm => ?_)
     simp only [List.mem_cons, List.not_mem_nil, or_false] at hm
     rcases hm with rfl | rfl
     · refine RunI.append (A := [(b46, _), (b44, _), (b17, _), (b16, _), (b15, _), (b11, _), (b10, _), (b9, _), (b8, _), (b7, _)]) (B := _) (x := z42) (ys := l.cells) rfl ap_32 rfl rfl rfl hz42 rfl (fun h => by cases h) (fun w hm => src_blk (hm.at (.tail _ (.head _)))) (one_of rfl) (by simp only [maxLen]; omega) (by omega) rfl (fun z45 hz45 => (RunK.toA (.cons (.there (.there .here)) rfl (.cons (.there (.there .here)) rfl (.cons (.there (.there .here)) rfl (.cons (.there (.there .here)) rfl (.cons (.there (.there .here)) rfl (.cons (.there (.there .here)) rfl (.cons (.there (.there .here)) rfl (.cons (.there (.there .here)) rfl .nil)))))))) (.cons .here rfl (.cons .here rfl (.cons .here rfl (.cons .here rfl (.cons .here rfl (.cons .here rfl (.cons .here rfl (.cons .here rfl .nil)))))))) rfl ?_))
       refine va 14 rfl (Val.fieldAddr rfl fld_34_3) rfl rfl rfl (.cons (.there (.there .here)) rfl (.cons (.there (.there .here)) rfl (.cons (.there (.there .here)) rfl (.cons (.there (.there .here)) rfl (.cons (.there (.there .here)) rfl (.cons (.there (.there .here)) rfl (.cons (.there (.there .here)) rfl (.cons (.there (.there .here)) rfl .nil)))))))) rfl ?_
       have h9 := hN4 b46 z45 hz45 b44
       rw [hG] at h9
       exact RunA.keepR h9 (Sub.cons (t := 46) rfl (Sub.cons (t := 45) rfl (Sub.cons (t := 44) rfl (Sub.cons (t := 53) rfl (Sub.skip rfl (Sub.skip rfl (Sub.skip rfl (Sub.skip rfl (Sub.skip rfl (Sub.refl _)))))))))) (.cons .here rfl (.cons .here rfl (.cons .here rfl (.cons .here rfl (.cons .here rfl (.cons .here rfl (.cons .here rfl (.cons .here rfl (.cons .here rfl (.cons .here rfl (Pick.refl _))))))))))) (by kernel_rfl)
     · refine RunI.new rfl (New.buildSlice (parts := [(0, .tmp 50)]) rfl sl_39 zero_76 rfl rfl rfl rfl) rfl rfl rfl (fun b51 => (RunK.toA (.cons (.there (.there (.there .here))) rfl (.cons (.there (.there (.there .here))) rfl (.cons (.there (.there (.there .here))) rfl (.cons (.there (.there (.there .here))) rfl (.cons (.there (.there (.there .here))) rfl (.cons (.there (.there (.there .here))) rfl (.cons (.there (.there (.there .here))) rfl (.cons (.there (.there (.there .here))) rfl .nil)))))))) (.cons .here rfl (.cons .here rfl (.cons .here rfl (.cons .here rfl (.cons .here rfl (.cons .here rfl (.cons .here rfl (.cons .here rfl .nil)))))))) rfl ?_))
       have h9 := hN6 b51 b46 b44 z42 hz42
       rw [hG] at h9
       exact RunA.keepR h9 (Sub.cons (t := 51) rfl (Sub.cons (t := 46) rfl (Sub.cons (t := 44) rfl (Sub.cons (t := 42) rfl (Sub.skip rfl (Sub.skip rfl (Sub.skip rfl (Sub.skip rfl (Sub.refl _))))))))) (.cons .here rfl (.cons .here rfl (.cons .here rfl (.cons .here rfl (.cons .here rfl (.cons .here rfl (.cons .here rfl (.cons .here rfl (.cons .here rfl (.cons .here rfl (.cons .here rfl (Pick.refl _)))))))))))) (by kernel_rfl)
   have hN9 : ∀ (b51 : Nat) (b44 : Nat) (z42 : Eng.Own) (hz42 : OwnOk 4 z42 (0 + c.loans.l.length) ([] ++ (c.loans.l.map Ln.cells).flatten)), G 8 #[true, true, true, true, true, true, false, false, true, true, false, true, true, false, false, false, false, false] ((51, .slice (some ⟨b51, 0, none⟩) 1 1) :: (44, .slice (some ⟨b44, 0, none⟩) 1 1) :: (42, ownV z42 (0 + c.loans.l.length)) :: r1) ((b51, .cells q.cells.toArray 76 (0, 0)) :: (b44, .cells l.cells.toArray 74 (0, 0)) :: (n1 ++ (ownB 74 z42 ([] ++ (c.loans.l.map Ln.cells).flatten) ++ []))) := by
     intro b51 b44 z42 hz42
     subst hr1 hn1
     rw [hG]
     refine RunA.all (rs := [6, 7]) (by kernel_rfl) (by simp) (by kernel_rfl) (fun m hm => ?_)
     simp only [List.mem_cons, List.not_mem_nil, or_false] at hm
     rcases hm with rfl | rfl
     · refine RunI.append (A := [(b51, _), (b44, _), (b17, _), (b16, _), (b15, _), (b11, _), (b10, _), (b9, _), (b8, _), (b7, _)]) (B := _) (x := z42) (ys := l.cells) rfl ap_32 rfl rfl rfl hz42 rfl (fun h => by cases h) (fun w hm => src_blk (hm.at (.tail _ (.head _)))) (one_of rfl) (by simp only [maxLen]; omega) (by omega) rfl (fun z45 hz45 => (RunK.toA (.cons (.there (.there .here)) rfl (.cons (.there (.there .here)) rfl (.cons (.there (.there .here)) rfl (.cons (.there (.there .here)) rfl (.cons (.there (.there .here)) rfl (.cons (.there (.there .here)) rfl (.cons (.there (.there .here)) rfl (.cons (.there (.there .here)) rfl .nil)))))))) (.cons .here rfl (.cons .here rfl (.cons .here rfl (.cons .here rfl (.cons .here rfl (.cons .here rfl (.cons .here rfl (.cons .here rfl .nil)))))))) rfl ?_))
       refine va 14 rfl (Val.fieldAddr rfl fld_34_3) rfl rfl rfl (.cons (.there (.there .here)) rfl (.cons (.there (.there .here)) rfl (.cons (.there (.there .here)) rfl (.cons (.there (.there .here)) rfl (.cons (.there (.there .here)) rfl (.cons (.there (.there .here)) rfl (.cons (.there (.there .here)) rfl (.cons (.there (.there .here)) rfl .nil)))))))) rfl ?_
       have h9 := hN5 b51 z45 hz45 b44
       rw [hG] at h9
       exact RunA.keepR h9 (Sub.cons (t := 51) rfl (Sub.cons (t := 45) rfl (Sub.cons (t := 44) rfl (Sub.cons (t := 53) rfl (Sub.skip rfl (Sub.skip rfl (Sub.skip rfl (Sub.skip rfl (Sub.skip rfl (Sub.refl _)))))))))) (.cons .here rfl (.cons .here rfl (.cons .here rfl (.cons .here rfl (.cons .here rfl (.cons .here rfl (.cons .here rfl (.cons .here rfl (.cons .here rfl (.cons .here rfl (Pick.refl _))))))))))) (by kernel_rfl)
     · refine RunI.new rfl (New.buildSlice0 sl_39) rfl rfl rfl (fun b46 => (RunK.toA (.cons (.there (.there (.there .here))) rfl (.cons (.there (.there (.there .here))) rfl (.cons (.there (.there (.there .here))) rfl (.cons (.there (.there (.there .here))) rfl (.cons (.there (.there (.there .here))) rfl (.cons (.there (.there (.there .here))) rfl (.cons (.there (.there (.there .here))) rfl (.cons (.there (.there (.there .here))) rfl .nil)))))))) (.cons .here rfl (.cons .here rfl (.cons .here rfl (.cons .here rfl (.cons .here rfl (.cons .here rfl (.cons .here rfl (.cons .here rfl .nil)))))))) rfl ?_))
       have h9 := hN6 b51 b46 b44 z42 hz42
       rw [hG] at h9
       exact RunA.keepR h9 (Sub.cons (t := 51) rfl (Sub.cons (t := 46) rfl (Sub.cons (t := 44) rfl (Sub.cons (t := 42) rfl (Sub.skip rfl (Sub.skip rfl (Sub.skip rfl (Sub.skip rfl (Sub.refl _))))))))) (.cons (.there .here) rfl (.cons .here rfl (.cons .here rfl (.cons .here rfl (.cons .here rfl (.cons .here rfl (.cons .here rfl (.cons .here rfl (.cons .here rfl (.cons .here rfl (.cons .here rfl (Pick.refl _)))))))))))) (by kernel_rfl)
   have hN10 : ∀ (b51 : Nat) (b46 : Nat) (z42 : Eng.Own) (hz42 : OwnOk 4 z42 (0 + c.loans.l.length) ([] ++ (c.loans.l.map Ln.cells).flatten)), G 8 #[true, true, true, true, true, false, false, true, true, true, false, true, true, false, false, false, false, false] ((51, .slice (some ⟨b51, 0, none⟩) 1 1) :: (46, .slice (some ⟨b46, 0, none⟩) 0 0) :: (42, ownV z42 (0 + c.loans.l.length)) :: r1) ((b51, .cells q.cells.toArray 76 (0, 0)) :: (b46, .cells [].toArray 76 (0, 0)) :: (n1 ++ (ownB 74 z42 ([] ++ (c.loans.l.map Ln.cells).flatten) ++ []))) := by
     intro b51 b46 z42 hz42
     subst hr1 hn1
     rw [hG]
     refine RunA.one (i := 5) (by kernel_rfl) (by kernel_rfl) ?_
     refine RunI.new rfl (New.buildSlice (parts := [(0, .tmp 43)]) rfl sl_32 zero_74 rfl rfl rfl rfl) rfl rfl rfl (fun b44 => (RunK.toA (.cons (.there (.there (.there .here))) rfl (.cons (.there (.there (.there .here))) rfl (.cons (.there (.there (.there .here))) rfl (.cons (.there (.there (.there .here))) rfl (.cons (.there (.there (.there .here))) rfl (.cons (.there (.there (.there .here))) rfl (.cons (.there (.there (.there .here))) rfl (.cons (.there (.there (.there .here))) rfl .nil)))))))) (.cons .here rfl (.cons .here rfl (.cons .here rfl (.cons .here rfl (.cons .here rfl (.cons .here rfl (.cons .here rfl (.cons .here rfl .nil)))))))) rfl ?_))
     have h9 := hN6 b51 b46 b44 z42 hz42
     rw [hG] at h9
     exact RunA.keepR h9 (Sub.cons (t := 51) rfl (Sub.cons (t := 46) rfl (Sub.cons (t := 44) rfl (Sub.cons (t := 42) rfl (Sub.skip rfl (Sub.skip rfl (Sub.skip rfl (Sub.skip rfl (Sub.refl _))))))))) (.cons (.there .here) rfl (.cons (.there .here) rfl (.cons .here rfl (.cons .here rfl (.cons .here rfl (.cons .here rfl (.cons .here rfl (.cons .here rfl (.cons .here rfl (.cons .here rfl (.cons .here rfl (Pick.refl _)))))))))))) (by kernel_rfl)
   have hN11 : ∀ (b51 : Nat) (b46 : Nat) (b44 : Nat) (b39 : Nat), G 8 #[true, true, true, false, true, true, false, true, true, true, false, true, true, false, false, false, false, false] ((51, .slice (some ⟨b51, 0, none⟩) 1 1) :: (46, .slice (some ⟨b46, 0, none⟩) 0 0) :: (44, .slice (some ⟨b44, 0, none⟩) 1 1) :: (39, .slice (some ⟨b39, 0, none⟩) 0 0) :: r1) ((b51, .cells q.cells.toArray 76 (0, 0)) :: (b46, .cells [].toArray 76 (0, 0)) :: (b44, .cells l.cells.toArray 74 (0, 0)) :: (b39, .cells [].toArray 74 (0, 0)) :: (n1 ++ [])) := by
     intro b51 b46 b44 b39
     subst hr1 hn1
     rw [hG]
     refine RunA.one (i := 3) (by kernel_rfl) (by kernel_rfl) ?_
     refine RunI.keep (Sub.refl _) (.cons .here rfl (.cons .here rfl (.cons .here rfl (.cons (.there .here) rfl (.cons (.there .here) rfl (.cons (.there .here) rfl (.cons (.there .here) rfl (.cons (.there .here) rfl (.cons (.there .here) rfl (.cons (.there .here) rfl (.cons (.there .here) rfl (.cons .here rfl .nil)))))))))))) ?_
     refine RunI.append (A := [(b51, _), (b46, _), (b44, _), (b17, _), (b16, _), (b15, _), (b11, _), (b10, _), (b9, _), (b8, _), (b7, _)]) (B := _) (x := (some (b39, 0, []))) (ys := (c.loans.l.map Ln.cells).flatten) rfl ap_32 rfl rfl rfl OwnOk.empty ln_len hcq (fun w hm => sa_src (by decide) hC.loans hm) ln_one (by simp only [maxLen]; omega) (by omega) rfl (fun z42 hz42 => (RunK.toA (.cons (.there (.there (.there .here))) rfl (.cons (.there (.there (.there .here))) rfl (.cons (.there (.there (.there .here))) rfl (.cons (.there (.there (.there .here))) rfl (.cons (.there (.there (.there .here))) rfl (.cons (.there (.there (.there .here))) rfl (.cons (.there (.there (.there .here))) rfl (.cons (.there (.there (.there .here))) rfl .nil)))))))) (.cons .here rfl (.cons .here rfl (.cons .here rfl (.cons .here rfl (.cons .here rfl (.cons .here rfl (.cons .here rfl (.cons .here rfl .nil)))))))) rfl ?_))
     have h9 := hN6 b51 b46 b44 z42 hz42
     rw [hG] at h9
     exact RunA.keepR h9 (Sub.cons (t := 51) rfl (Sub.cons (t := 46) rfl (Sub.cons (t := 44) rfl (Sub.cons (t := 42) rfl (Sub.skip rfl (Sub.skip rfl (Sub.skip rfl (Sub.skip rfl (Sub.skip rfl (Sub.refl _)))))))))) (.cons .here rfl (.cons .here rfl (.cons .here rfl (.cons .here rfl (.cons .here rfl (.cons .here rfl (.cons .here rfl (.cons .here rfl (.cons .here rfl (.cons .here rfl (.cons .here rfl (Pick.refl _)))))))))))) (by kernel_rfl)
   have hN12 : ∀ (b44 : Nat) (z42 : Eng.Own) (hz42 : OwnOk 4 z42 (0 + c.loans.l.length) ([] ++ (c.loans.l.map Ln.cells).flatten)), G 9 #[true, true, true, true, true, true, false, false, true, true, false, true, false, false, false, false, false, false] ((44, .slice (some ⟨b44, 0, none⟩) 1 1) :: (42, ownV z42 (0 + c.loans.l.length)) :: r1) ((b44, .cells l.cells.toArray 74 (0, 0)) :: (n1 ++ (ownB 74 z42 ([] ++ (c.loans.l.map Ln.cells).flatten) ++ []))) := by
     intro b44 z42 hz42
     subst hr1 hn1
     rw [hG]
     refine RunA.all (rs := [6, 7, 12]) (by kernel_rfl) (by simp) (by kernel_rfl) (fun m hm => ?_)
     simp only [List.mem_cons, List.not_mem_nil, or_false] at hm
     rcases hm with rfl | rfl | rfl
     · refine RunI.append (A := [(b44, _), (b17, _), (b16, _), (b15, _), (b11, _), (b10, _), (b9, _), (b8, _), (b7, _)]) (B := _) (x := z42) (ys := l.cells) rfl ap_32 rfl rfl rfl hz42 rfl (fun h => by cases h) (fun w hm => src_blk (hm.at (.head _))) (one_of rfl) (by simp only [maxLen]; omega) (by omega) rfl (fun z45 hz45 => (RunK.toA (.cons (.there .here) rfl (.cons (.there .here) rfl (.cons (.there .here) rfl (.cons (.there .here) rfl (.cons (.there .here) rfl (.cons (.there .here) rfl (.cons (.there .here) rfl (.cons (.there .here) rfl .nil)))))))) (.cons .here rfl (.cons .here rfl (.cons .here rfl (.cons .here rfl (.cons .here rfl (.cons .here rfl (.cons .here rfl (.cons .here rfl .nil)))))))) rfl ?_))
       refine va 14 rfl (Val.fieldAddr rfl fld_34_3) rfl rfl rfl (.cons (.there .here) rfl (.cons (.there .here) rfl (.cons (.there .here) rfl (.cons (.there .here) rfl (.cons (.there .here) rfl (.cons (.there .here) rfl (.cons (.there .here) rfl (.cons (.there .here) rfl .nil)))))))) rfl ?_
       have h9 := hN7 z45 hz45 b44
       rw [hG] at h9
       exact RunA.keepR h9 (Sub.cons (t := 45) rfl (Sub.cons (t := 44) rfl (Sub.cons (t := 53) rfl (Sub.skip rfl (Sub.skip rfl (Sub.skip rfl (Sub.skip rfl (Sub.refl _)))))))) (.cons .here rfl (.cons .here rfl (.cons .here rfl (.cons .here rfl (.cons .here rfl (.cons .here rfl (.cons .here rfl (.cons .here rfl (.cons .here rfl (Pick.refl _)))))))))) (by kernel_rfl)
     · refine RunI.new rfl (New.buildSlice0 sl_39) rfl rfl rfl (fun b46 => (RunK.toA (.cons (.there (.there .here)) rfl (.cons (.there (.there .here)) rfl (.cons (.there (.there .here)) rfl (.cons (.there (.there .here)) rfl (.cons (.there (.there .here)) rfl (.cons (.there (.there .here)) rfl (.cons (.there (.there .here)) rfl (.cons (.there (.there .here)) rfl .nil)))))))) (.cons .here rfl (.cons .here rfl (.cons .here rfl (.cons .here rfl (.cons .here rfl (.cons .here rfl (.cons .here rfl (.cons .here rfl .nil)))))))) rfl ?_))
       have h9 := hN8 b46 b44 z42 hz42
       rw [hG] at h9
       exact RunA.keepR h9 (Sub.cons (t := 46) rfl (Sub.cons (t := 44) rfl (Sub.cons (t := 42) rfl (Sub.skip rfl (Sub.skip rfl (Sub.skip rfl (Sub.refl _))))))) (.cons .here rfl (.cons .here rfl (.cons .here rfl (.cons .here rfl (.cons .here rfl (.cons .here rfl (.cons .here rfl (.cons .here rfl (.cons .here rfl (.cons .here rfl (Pick.refl _))))))))))) (by kernel_rfl)
     · refine RunI.new rfl (New.buildSlice (parts := [(0, .tmp 50)]) rfl sl_39 zero_76 rfl rfl rfl rfl) rfl rfl rfl (fun b51 => (RunK.toA (.cons (.there (.there .here)) rfl (.cons (.there (.there .here)) rfl (.cons (.there (.there .here)) rfl (.cons (.there (.there .here)) rfl (.cons (.there (.there .here)) rfl (.cons (.there (.there .here)) rfl (.cons (.there (.there .here)) rfl (.cons (.there (.there .here)) rfl .nil)))))))) (.cons .here rfl (.cons .here rfl (.cons .here rfl (.cons .here rfl (.cons .here rfl (.cons .here rfl (.cons .here rfl (.cons .here rfl .nil)))))))) rfl ?_))
       have h9 := hN9 b51 b44 z42 hz42
       rw [hG] at h9
       exact RunA.keepR h9 (Sub.cons (t := 51) rfl (Sub.cons (t := 44) rfl (Sub.cons (t := 42) rfl (Sub.skip rfl (Sub.skip rfl (Sub.skip rfl (Sub.refl _))))))) (.cons .here rfl (.cons .here rfl (.cons .here rfl (.cons .here rfl (.cons .here rfl (.cons .here rfl (.cons .here rfl (.cons .here rfl (.cons .here rfl (.cons .here rfl (Pick.refl _))))))))))) (by kernel_rfl)
   have hN13 : ∀ (b46 : Nat) (z42 : Eng.Own) (hz42 : OwnOk 4 z42 (0 + c.loans.l.length) ([] ++ (c.loans.l.map Ln.cells).flatten)), G 9 #[true, true, true, true, true, false, false, true, true, true, false, true, false, false, false, false, false, false] ((46, .slice (some ⟨b46, 0, none⟩) 0 0) :: (42, ownV z42 (0 + c.loans.l.length)) :: r1) ((b46, .cells [].toArray 76 (0, 0)) :: (n1 ++ (ownB 74 z42 ([] ++ (c.loans.l.map Ln.cells).flatten) ++ []))) := by
     intro b46 z42 hz42
     subst hr1 hn1
     rw [hG]
     refine RunA.all (rs := [5, 12]) (by kernel_rfl) (by simp) (by kernel_rfl) (fun m hm => ?_)
     simp only [List.mem_cons, List.not_mem_nil, or_false] at hm
     rcases hm with rfl | rfl
     · refine RunI.new rfl (New.buildSlice (parts := [(0, .tmp 43)]) rfl sl_32 zero_74 rfl rfl rfl rfl) rfl rfl rfl (fun b44 => (RunK.toA (.cons (.there (.there .here)) rfl (.cons (.there (.there .here)) rfl (.cons (.there (.there .here)) rfl (.cons (.there (.there .here)) rfl (.cons (.there (.there .here)) rfl (.cons (.there (.there .here)) rfl (.cons (.there (.there .here)) rfl (.cons (.there (.there .here)) rfl .nil)))))))) (.cons .here rfl (.cons .here rfl (.cons .here rfl (.cons .here rfl (.cons .here rfl (.cons .here rfl (.cons .here rfl (.cons .here rfl .nil)))))))) rfl ?_))
       have h9 := hN8 b46 b44 z42 hz42
       rw [hG] at h9
       exact RunA.keepR h9 (Sub.cons (t := 46) rfl (Sub.cons (t := 44) rfl (Sub.cons (t := 42) rfl (Sub.skip rfl (Sub.skip rfl (Sub.skip rfl (Sub.refl _))))))) (.cons (.there .here) rfl (.cons .here rfl (.cons .here rfl (.cons .here rfl (.cons .here rfl (.cons .here rfl (.cons .here rfl (.cons .here rfl (.cons .here rfl (.cons .here rfl (Pick.refl _))))))))))) (by kernel_rfl)
     · refine RunI.new rfl (New.buildSlice (parts := [(0, .tmp 50)]) rfl sl_39 zero_76 rfl rfl rfl rfl) rfl rfl rfl (fun b51 => (RunK.toA (.cons (.there (.there .here)) rfl (.cons (.there (.there .here)) rfl (.cons (.there (.there .here)) rfl (.cons (.there (.there .here)) rfl (.cons (.there (.there .here)) rfl (.cons (.there (.there .here)) rfl (.cons (.there (.there .here)) rfl (.cons (.there (.there .here)) rfl .nil)))))))) (.cons .here rfl (.cons .here rfl (.cons .here rfl (.cons .here rfl (.cons .here rfl (.cons .here rfl (.cons .here rfl (.cons .here rfl .nil)))))))) rfl ?_))
       have h9 := hN10 b51 b46 z42 hz42
       rw [hG] at h9
       exact RunA.keepR h9 (Sub.cons (t := 51) rfl (Sub.cons (t := 46) rfl (Sub.cons (t := 42) rfl (Sub.skip rfl (Sub.skip rfl (Sub.skip rfl (Sub.refl _))))))) (.cons .here rfl (.cons .here rfl (.cons .here rfl (.cons .here rfl (.cons .here rfl (.cons .here rfl (.cons .here rfl (.cons .here rfl (.cons .here rfl (.cons .here rfl (Pick.refl _))))))))))) (by kernel_rfl)
   have hN14 : ∀ (b51 : Nat) (z42 : Eng.Own) (hz42 : OwnOk 4 z42 (0 + c.loans.l.length) ([] ++ (c.loans.l.map Ln.cells).flatten)), G 9 #[true, true, true, true, true, false, false, false, true, true, false, true, true, false, false, false, false, false] ((51, .slice (some ⟨b51, 0, none⟩) 1 1) :: (42, ownV z42 (0 + c.loans.l.length)) :: r1) ((b51, .cells q.cells.toArray 76 (0, 0)) :: (n1 ++ (ownB 74 z42 ([] ++ (c.loans.l.map Ln.cells).flatten) ++ []))) := by
     intro b51 z42 hz42
     subst hr1 hn1
     rw [hG]
     refine RunA.all (rs := [5, 7]) (by kernel_rfl) (by simp) (by kernel_rfl) (fun m hm => ?_)
     simp only [List.mem_cons, List.not_mem_nil, or_false] at hm
     rcases hm with rfl | rfl
     · refine RunI.new rfl (New.buildSlice (parts := [(0, .tmp 43)]) rfl sl_32 zero_74 rfl rfl rfl rfl) rfl rfl rfl (fun b44 => (RunK.toA (.cons (.there (.there .here)) rfl (.cons (.there (.there .here)) rfl (.cons (.there (.there .here)) rfl (.cons (.there (.there .here)) rfl (.cons (.there (.there .here)) rfl (.cons (.there (.there .here)) rfl (.cons (.there (.there .here)) rfl (.cons (.there (.there .here)) rfl .nil)))))))) (.cons .here rfl (.cons .here rfl (.cons .here rfl (.cons .here rfl (.cons .here rfl (.cons .here rfl (.cons .here rfl (.cons .here rfl .nil)))))))) rfl ?_))
       have h9 := hN9 b51 b44 z42 hz42
       rw [hG] at h9
       exact RunA.keepR h9 (Sub.cons (t := 51) rfl (Sub.cons (t := 44) rfl (Sub.cons (t := 42) rfl (Sub.skip rfl (Sub.skip rfl (Sub.skip rfl (Sub.refl _))))))) (.cons (.there .here) rfl (.cons .here rfl (.cons .here rfl (.cons .here rfl (.cons .here rfl (.cons .here rfl (.cons .here rfl (.cons .here rfl (.cons .here rfl (.cons .here rfl (Pick.refl _))))))))))) (by kernel_rfl)
     · refine RunI.new rfl (New.buildSlice0 sl_39) rfl rfl rfl (fun b46 => (RunK.toA (.cons (.there (.there .here)) rfl (.cons (.there (.there .here)) rfl (.cons (.there (.there .here)) rfl (.cons (.there (.there .here)) rfl (.cons (.there (.there .here)) rfl (.cons (.there (.there .here)) rfl (.cons (.there (.there .here)) rfl (.cons (.there (.there .here)) rfl .nil)))))))) (.cons .here rfl (.cons .here rfl (.cons .here rfl (.cons .here rfl (.cons .here rfl (.cons .here rfl (.cons .here rfl (.cons .here rfl .nil)))))))) rfl ?_))
       have h9 := hN10 b51 b46 z42 hz42
       rw [hG] at h9
       exact RunA.keepR h9 (Sub.cons (t := 51) rfl (Sub.cons (t := 46) rfl (Sub.cons (t := 42) rfl (Sub.skip rfl (Sub.skip rfl (Sub.skip rfl (Sub.refl _))))))) (.cons (.there .here) rfl (.cons .here rfl (.cons .here rfl (.cons .here rfl (.cons .here rfl (.cons .here rfl (.cons .here rfl (.cons .here rfl (.cons .here rfl (.cons .here rfl (Pick.refl _))))))))))) (by kernel_rfl)
   have hN15 : ∀ (b46 : Nat) (b44 : Nat) (b39 : Nat), G 9 #[true, true, true, false, true, true, false, true, true, true, false, true, false, false, false, false, false, false] ((46, .slice (some ⟨b46, 0, none⟩) 0 0) :: (44, .slice (some ⟨b44, 0, none⟩) 1 1) :: (39, .slice (some ⟨b39, 0, none⟩) 0 0) :: r1) ((b46, .cells [].toArray 76 (0, 0)) :: (b44, .cells l.cells.toArray 74 (0, 0)) :: (b39, .cells [].toArray 74 (0, 0)) :: (n1 ++ [])) := by
     intro b46 b44 b39
     subst hr1 hn1
     rw [hG]
     refine RunA.all (rs := [3, 12]) (by kernel_rfl) (by simp) (by kernel_rfl) (fun m hm => ?_)
     simp only [List.mem_cons, List.not_mem_nil, or_false] at hm
     rcases hm with rfl | rfl
     · refine RunI.keep (Sub.refl _) (.cons .here rfl (.cons .here rfl (.cons (.there .here) rfl (.cons (.there .here) rfl (.cons (.there .here) rfl (.cons (.there .here) rfl (.cons (.there .here) rfl (.cons (.there .here) rfl (.cons (.there .here) rfl (.cons (.there .here) rfl (.cons .here rfl .nil))))))))))) ?_
       refine RunI.append (A := [(b46, _), (b44, _), (b17, _), (b16, _), (b15, _), (b11, _), (b10, _), (b9, _), (b8, _), (b7, _)]) (B := _) (x := (some (b39, 0, []))) (ys := (c.loans.l.map Ln.cells).flatten) rfl ap_32 rfl rfl rfl OwnOk.empty ln_len hcq (fun w hm => sa_src (by decide) hC.loans hm) ln_one (by simp only [maxLen]; omega) (by omega) rfl (fun z42 hz42 => (RunK.toA (.cons (.there (.there .here)) rfl (.cons (.there (.there .here)) rfl (.cons (.there (.there .here)) rfl (.cons (.there (.there .here)) rfl (.cons (.there (.there .here)) rfl (.cons (.there (.there .here)) rfl (.cons (.there (.there .here)) rfl (.cons (.there (.there .here)) rfl .nil)))))))) (.cons .here rfl (.cons .here rfl (.cons .here rfl (.cons .here rfl (.cons .here rfl (.cons .here rfl (.cons .here rfl (.cons .here rfl .nil)))))))) rfl ?_))
       have h9 := hN8 b46 b44 z42 hz42
       rw [hG] at h9
       exact RunA.keepR h9 (Sub.cons (t := 46) rfl (Sub.cons (t := 44) rfl (Sub.cons (t := 42) rfl (Sub.skip rfl (Sub.skip rfl (Sub.skip rfl (Sub.skip rfl (Sub.refl _)))))))) (.cons .here rfl (.cons .here rfl (.cons .here rfl (.cons .here rfl (.cons .here rfl (.cons .here rfl (.cons .here rfl (.cons .here rfl (.cons .here rfl (.cons .here rfl (Pick.refl _))))))))))) (by kernel_rfl)
     · refine RunI.new rfl (New.buildSlice (parts := [(0, .tmp 50)]) rfl sl_39 zero_76 rfl rfl rfl rfl) rfl rfl rfl (fun b51 => (RunK.toA (.cons (.there (.there (.there (.there .here)))) rfl (.cons (.there (.there (.there (.there .here)))) rfl (.cons (.there (.there (.there (.there .here)))) rfl (.cons (.there (.there (.there (.there .here)))) rfl (.cons (.there (.there (.there (.there .here)))) rfl (.cons (.there (.there (.there (.there .here)))) rfl (.cons (.there (.there (.there (.there .here)))) rfl (.cons (.there (.there (.there (.there .here)))) rfl .nil)))))))) (.cons .here rfl (.cons .here rfl (.cons .here rfl (.cons .here rfl (.cons .here rfl (.cons .here rfl (.cons .here rfl (.cons .here rfl .nil)))))))) rfl ?_))
       have h9 := hN11 b51 b46 b44 b39
       rw [hG] at h9
       exact RunA.keepR h9 (Sub.cons (t := 51) rfl (Sub.cons (t := 46) rfl (Sub.cons (t := 44) rfl (Sub.cons (t := 39) rfl (Sub.skip rfl (Sub.skip rfl (Sub.skip rfl (Sub.skip rfl (Sub.refl _))))))))) (.cons .here rfl (.cons .here rfl (.cons .here rfl (.cons .here rfl (.cons .here rfl (.cons .here rfl (.cons .here rfl (.cons .here rfl (.cons .here rfl (.cons .here rfl (.cons .here rfl (.cons .here rfl .nil)))))))))))) (by kernel_rfl)
   have hN16 : ∀ (b51 : Nat) (b44 : Nat) (b39 : Nat), G 9 #[true, true, true, false, true, true, false, false, true, true, false, true, true, false, false, false, false, false] ((51, .slice (some ⟨b51, 0, none⟩) 1 1) :: (44, .slice (some ⟨b44, 0, none⟩) 1 1) :: (39, .slice (some ⟨b39, 0, none⟩) 0 0) :: r1) ((b51, .cells q.cells.toArray 76 (0, 0)) :: (b44, .cells l.cells.toArray 74 (0, 0)) :: (b39, .cells [].toArray 74 (0, 0)) :: (n1 ++ [])) := by
     intro b51 b44 b39
     subst hr1 hn1
     rw [hG]
     refine RunA.all (rs := [3, 7]) (by kernel_rfl) (by simp) (by kernel_rfl) (fun m hm => ?_)
     simp only [List.mem_cons, List.not_mem_nil, or_false] at hm
     rcases hm with rfl | rfl
     · refine RunI.keep (Sub.refl _) (.cons .here rfl (.cons .here rfl (.cons (.there .here) rfl (.cons (.there .here) rfl (.cons (.there .here) rfl (.cons (.there .here) rfl (.cons (.there .here) rfl (.cons (.there .here) rfl (.cons (.there .here) rfl (.cons (.there .here) rfl (.cons .here rfl .nil))))))))))) ?_
       refine RunI.append (A := [(b51, _), (b44, _), (b17, _), (b16, _), (b15, _), (b11, _), (b10, _), (b9, _), (b8, _), (b7, _)]) (B := _) (x := (some (b39, 0, []))) (ys := (c.loans.l.map Ln.cells).flatten) rfl ap_32 rfl rfl rfl OwnOk.empty ln_len hcq (fun w hm => sa_src (by decide) hC.loans hm) ln_one (by simp only [maxLen]; omega) (by omega) rfl (fun z42 hz42 => (RunK.toA (.cons (.there (.there .here)) rfl (.cons (.there (.there .here)) rfl (.cons (.there (.there .here)) rfl (.cons (.there (.there .here)) rfl (.cons (.there (.there .here)) rfl (.cons (.there (.there .here)) rfl (.cons (.there (.there .here)) rfl (.cons (.there (.there .here)) rfl .nil)))))))) (.cons .here rfl (.cons .here rfl (.cons .here rfl (.cons .here rfl (.cons .here rfl (.cons .here rfl (.cons .here rfl (.cons .here rfl .nil)))))))) rfl ?_))
       have h9 := hN9 b51 b44 z42 hz42
       rw [hG] at h9
       exact RunA.keepR h9 (Sub.cons (t := 51) rfl (Sub.cons (t := 44) rfl (Sub.cons (t := 42) rfl (Sub.skip rfl (Sub.skip rfl (Sub.skip rfl (Sub.skip rfl (Sub.refl _)))))))) (.cons .here rfl (.cons .here rfl (.cons .here rfl (.cons .here rfl (.cons .here rfl (.cons .here rfl (.cons .here rfl (.cons .here rfl (.cons .here rfl (.cons .here rfl (Pick.refl _))))))))))) (by kernel_rfl)
     · refine RunI.new rfl (New.buildSlice0 sl_39) rfl rfl rfl (fun b46 => (RunK.toA (.cons (.there (.there (.there (.there .here)))) rfl (.cons (.there (.there (.there (.there .here)))) rfl (.cons (.there (.there (.there (.there .here)))) rfl (.cons (.there (.there (.there (.there .here)))) rfl (.cons (.there (.there (.there (.there .here)))) rfl (.cons (.there (.there (.there (.there .here)))) rfl (.cons (.there (.there (.there (.there .here)))) rfl (.cons (.there (.there (.there (.there .here)))) rfl .nil)))))))) (.cons .here rfl (.cons .here rfl (.cons .here rfl (.cons .here rfl (.cons .here rfl (.cons .here rfl (.cons .here rfl (.cons .here rfl .nil)))))))) rfl ?_))
       have h9 := hN11 b51 b46 b44 b39
       rw [hG] at h9
       exact RunA.keepR h9 (Sub.cons (t := 51) rfl (Sub.cons (t := 46) rfl (Sub.cons (t := 44) rfl (Sub.cons (t := 39) rfl (Sub.skip rfl (Sub.skip rfl (Sub.skip rfl (Sub.skip rfl (Sub.refl _))))))))) (.cons (.there .here) rfl (.cons .here rfl (.cons .here rfl (.cons .here rfl (.cons .here rfl (.cons .here rfl (.cons .here rfl (.cons .here rfl (.cons .here rfl (.cons .here rfl (.cons .here rfl (.cons .here rfl .nil)))))))))))) (by kernel_rfl)
   have hN17 : ∀ (b51 : Nat) (b46 : Nat) (b39 : Nat), G 9 #[true, true, true, false, true, false, false, true, true, true, false, true, true, false, false, false, false, false] ((51, .slice (some ⟨b51, 0, none⟩) 1 1) :: (46, .slice (some ⟨b46, 0, none⟩) 0 0) :: (39, .slice (some ⟨b39, 0, none⟩) 0 0) :: r1) ((b51, .cells q.cells.toArray 76 (0, 0)) :: (b46, .cells [].toArray 76 (0, 0)) :: (b39, .cells [].toArray 74 (0, 0)) :: (n1 ++ [])) := by
     intro b51 b46 b39
     subst hr1 hn1
     rw [hG]
     refine RunA.all (rs := [3, 5]) (by kernel_rfl) (by simp) (by kernel_rfl) (fun m hm => ?_)
     simp only [List.mem_cons, List.not_mem_nil, or_false] at hm
     rcases hm with rfl | rfl
     · refine RunI.keep (Sub.refl _) (.cons .here rfl (.cons .here rfl (.cons (.there .here) rfl (.cons (.there .here) rfl (.cons (.there .here) rfl (.cons (.there .here) rfl (.cons (.there .here) rfl (.cons (.there .here) rfl (.cons (.there .here) rfl (.cons (.there .here) rfl (.cons .here rfl .nil))))))))))) ?_
       refine RunI.append (A := [(b51, _), (b46, _), (b17, _), (b16, _), (b15, _), (b11, _), (b10, _), (b9, _), (b8, _), (b7, _)]) (B := _) (x := (some (b39, 0, []))) (ys := (c.loans.l.map Ln.cells).flatten) rfl ap_32 rfl rfl rfl OwnOk.empty ln_len hcq (fun w hm => sa_src (by decide) hC.loans hm) ln_one (by simp only [maxLen]; omega) (by omega) rfl (fun z42 hz42 => (RunK.toA (.cons (.there (.there .here)) rfl (.cons (.there (.there .here)) rfl (.cons (.there (.there .here)) rfl (.cons (.there (.there .here)) rfl (.cons (.there (.there .here)) rfl (.cons (.there (.there .here)) rfl (.cons (.there (.there .here)) rfl (.cons (.there (.there .here)) rfl .nil)))))))) (.cons .here rfl (.cons .here rfl (.cons .here rfl (.cons .here rfl (.cons .here rfl (.cons .here rfl (.cons .here rfl (.cons .here rfl .nil)))))))) rfl ?_))
       have h9 := hN10 b51 b46 z42 hz42
       rw [hG] at h9
       exact RunA.keepR h9 (Sub.cons (t := 51) rfl (Sub.cons (t := 46) rfl (Sub.cons (t := 42) rfl (Sub.skip rfl (Sub.skip rfl (Sub.skip rfl (Sub.skip rfl (Sub.refl _)))))))) (.cons .here rfl (.cons .here rfl (.cons .here rfl (.cons .here rfl (.cons .here rfl (.cons .here rfl (.cons .here rfl (.cons .here rfl (.cons .here rfl (.cons .here rfl (Pick.refl _))))))))))) (by kernel_rfl)
     · refine RunI.new rfl (New.buildSlice (parts := [(0, .tmp 43)]) rfl sl_32 zero_74 rfl rfl rfl rfl) rfl rfl rfl (fun b44 => (RunK.toA (.cons (.there (.there (.there (.there .here)))) rfl (.cons (.there (.there (.there (.there .here)))) rfl (.cons (.there (.there (.there (.there .here)))) rfl (.cons (.there (.there (.there (.there .here)))) rfl (.cons (.there (.there (.there (.there .here)))) rfl (.cons (.there (.there (.there (.there .here)))) rfl (.cons (.there (.there (.there (.there .here)))) rfl (.cons (.there (.there (.there (.there .here)))) rfl .nil)))))))) (.cons .here rfl (.cons .here rfl (.cons .here rfl (.cons .here rfl (.cons .here rfl (.cons .here rfl (.cons .here rfl (.cons .here rfl .nil)))))))) rfl ?_))
       have h9 := hN11 b51 b46 b44 b39
       rw [hG] at h9
       exact RunA.keepR h9 (Sub.cons (t := 51) rfl (Sub.cons (t := 46) rfl (Sub.cons (t := 44) rfl (Sub.cons (t := 39) rfl (Sub.skip rfl (Sub.skip rfl (Sub.skip rfl (Sub.skip rfl (Sub.refl _))))))))) (.cons (.there .here) rfl (.cons (.there .here) rfl (.cons .here rfl (.cons .here rfl (.cons .here rfl (.cons .here rfl (.cons .here rfl (.cons .here rfl (.cons .here rfl (.cons .here rfl (.cons .here rfl (.cons .here rfl .nil)))))))))))) (by kernel_rfl)
   have hN18 : ∀ (b51 : Nat) (b46 : Nat) (b44 : Nat), G 9 #[false, true, true, false, true, true, false, true, true, true, false, true, true, false, false, false, false, false] ((51, .slice (some ⟨b51, 0, none⟩) 1 1) :: (46, .slice (some ⟨b46, 0, none⟩) 0 0) :: (44, .slice (some ⟨b44, 0, none⟩) 1 1) :: r1) ((b51, .cells q.cells.toArray 76 (0, 0)) :: (b46, .cells [].toArray 76 (0, 0)) :: (b44, .cells l.cells.toArray 74 (0, 0)) :: (n1 ++ [])) := by
     intro b51 b46 b44
     subst hr1 hn1
     rw [hG]
     refine RunA.one (i := 0) (by kernel_rfl) (by kernel_rfl) ?_
     refine RunI.new rfl (New.buildSlice0 sl_32) rfl rfl rfl (fun b39 => (RunK.toA (.cons (.there (.there (.there (.there .here)))) rfl (.cons (.there (.there (.there (.there .here)))) rfl (.cons (.there (.there (.there (.there .here)))) rfl (.cons (.there (.there (.there (.there .here)))) rfl (.cons (.there (.there (.there (.there .here)))) rfl (.cons (.there (.there (.there (.there .here)))) rfl (.cons (.there (.there (.there (.there .here)))) rfl (.cons (.there (.there (.there (.there .here)))) rfl .nil)))))))) (.cons .here rfl (.cons .here rfl (.cons .here rfl (.cons .here rfl (.cons .here rfl (.cons .here rfl (.cons .here rfl (.cons .here rfl .nil)))))))) rfl ?_))
     have h9 := hN11 b51 b46 b44 b39
     rw [hG] at h9
     exact RunA.keepR h9 (Sub.cons (t := 51) rfl (Sub.cons (t := 46) rfl (Sub.cons (t := 44) rfl (Sub.cons (t := 39) rfl (Sub.skip rfl (Sub.skip rfl (Sub.skip rfl (Sub.skip rfl (Sub.refl _))))))))) (.cons (.there .here) rfl (.cons (.there .here) rfl (.cons (.there .here) rfl (.cons .here rfl (.cons .here rfl (.cons .here rfl (.cons .here rfl (.cons .here rfl (.cons .here rfl (.cons .here rfl (.cons .here rfl (.cons .here rfl .nil)))))))))))) (by kernel_rfl)
   have hN19 : ∀ (z42 : Eng.Own) (hz42 : OwnOk 4 z42 (0 + c.loans.l.length) ([] ++ (c.loans.l.map Ln.cells).flatten)), G 10 #[true, true, true, true, true, false, false, false, true, true, false, true, false, false, false, false, false, false] ((42, ownV z42 (0 + c.loans.l.length)) :: r1) ((n1 ++ (ownB 74 z42 ([] ++ (c.loans.l.map Ln.cells).flatten) ++ []))) := by
     intro z42 hz42
     subst hr1 hn1
     rw [hG]
     refine RunA.all (rs := [5, 7, 12]) (by kernel_rfl) (by simp) (by kernel_rfl) (fun m hm => ?_)
     simp only [List.mem_cons, List.not_mem_nil, or_false] at hm
     rcases hm with rfl | rfl | rfl
     · refine RunI.new rfl (New.buildSlice (parts := [(0, .tmp 43)]) rfl sl_32 zero_74 rfl rfl rfl rfl) rfl rfl rfl (fun b44 => (RunK.toA (.cons (.there .here) rfl (.cons (.there .here) rfl (.cons (.there .here) rfl (.cons (.there .here) rfl (.cons (.there .here) rfl (.cons (.there .here) rfl (.cons (.there .here) rfl (.cons (.there .here) rfl .nil)))))))) (.cons .here rfl (.cons .here rfl (.cons .here rfl (.cons .here rfl (.cons .here rfl (.cons .here rfl (.cons .here rfl (.cons .here rfl .nil)))))))) rfl ?_))
       have h9 := hN12 b44 z42 hz42
       rw [hG] at h9
       exact RunA.keepR h9 (Sub.cons (t := 44) rfl (Sub.cons (t := 42) rfl (Sub.skip rfl (Sub.skip rfl (Sub.refl _))))) (.cons .here rfl (.cons .here rfl (.cons .here rfl (.cons .here rfl (.cons .here rfl (.cons .here rfl (.cons .here rfl (.cons .here rfl (.cons .here rfl (Pick.refl _)))))))))) (by kernel_rfl)
     · refine RunI.new rfl (New.buildSlice0 sl_39) rfl rfl rfl (fun b46 => (RunK.toA (.cons (.there .here) rfl (.cons (.there .here) rfl (.cons (.there .here) rfl (.cons (.there .here) rfl (.cons (.there .here) rfl (.cons (.there .here) rfl (.cons (.there .here) rfl (.cons (.there .here) rfl .nil)))))))) (.cons .here rfl (.cons .here rfl (.cons .here rfl (.cons .here rfl (.cons .here rfl (.cons .here rfl (.cons .here rfl (.cons .here rfl .nil)))))))) rfl ?_))
       have h9 := hN13 b46 z42 hz42
       rw [hG] at h9
       exact RunA.keepR h9 (Sub.cons (t := 46) rfl (Sub.cons (t := 42) rfl (Sub.skip rfl (Sub.skip rfl (Sub.refl _))))) (.cons .here rfl (.cons .here rfl (.cons .here rfl (.cons .here rfl (.cons .here rfl (.cons .here rfl (.cons .here rfl (.cons .here rfl (.cons .here rfl (Pick.refl _)))))))))) (by kernel_rfl)
     · refine RunI.new rfl (New.buildSlice (parts := [(0, .tmp 50)]) rfl sl_39 zero_76 rfl rfl rfl rfl) rfl rfl rfl (fun b51 => (RunK.toA (.cons (.there .here) rfl (.cons (.there .here) rfl (.cons (.there .here) rfl (.cons (.there .here) rfl (.cons (.there .here) rfl (.cons (.there .here) rfl (.cons (.there .here) rfl (.cons (.there .here) rfl .nil)))))))) (.cons .here rfl (.cons .here rfl (.cons .here rfl (.cons .here rfl (.cons .here rfl (.cons .here rfl (.cons .here rfl (.cons .here rfl .nil)))))))) rfl ?_))
       have h9 := hN14 b51 z42 hz42
       rw [hG] at h9
       exact RunA.keepR h9 (Sub.cons (t := 51) rfl (Sub.cons (t := 42) rfl (Sub.skip rfl (Sub.skip rfl (Sub.refl _))))) (.cons .here rfl (.cons .here rfl (.cons .here rfl (.cons .here rfl (.cons .here rfl (.cons .here rfl (.cons .here rfl (.cons .here rfl (.cons .here rfl (Pick.refl _)))))))))) (by kernel_rfl)
   have hN20 : ∀ (b44 : Nat) (b39 : Nat), G 10 #[true, true, true, false, true, true, false, false, true, true, false, true, false, false, false, false, false, false] ((44, .slice (some ⟨b44, 0, none⟩) 1 1) :: (39, .slice (some ⟨b39, 0, none⟩) 0 0) :: r1) ((b44, .cells l.cells.toArray 74 (0, 0)) :: (b39, .cells [].toArray 74 (0, 0)) :: (n1 ++ [])) := by
     intro b44 b39
     subst hr1 hn1
     rw [hG]
     refine RunA.all (rs := [3, 7, 12]) (by kernel_rfl) (by simp) (by kernel_rfl) (fun m hm => ?_)
     simp only [List.mem_cons, List.not_mem_nil, or_false] at hm
     rcases hm with rfl | rfl | rfl
     · refine RunI.keep (Sub.refl _) (.cons .here rfl (.cons (.there .here) rfl (.cons (.there .here) rfl (.cons (.there .here) rfl (.cons (.there .here) rfl (.cons (.there .here) rfl (.cons (.there .here) rfl (.cons (.there .here) rfl (.cons (.there .here) rfl (.cons .here rfl .nil)))))))))) ?_
       refine RunI.append (A := [(b44, _), (b17, _), (b16, _), (b15, _), (b11, _), (b10, _), (b9, _), (b8, _), (b7, _)]) (B := _) (x := (some (b39, 0, []))) (ys := (c.loans.l.map Ln.cells).flatten) rfl ap_32 rfl rfl rfl OwnOk.empty ln_len hcq (fun w hm => sa_src (by decide) hC.loans hm) ln_one (by simp only [maxLen]; omega) (by omega) rfl (fun z42 hz42 => (RunK.toA (.cons (.there .here) rfl (.cons (.there .here) rfl (.cons (.there .here) rfl (.cons (.there .here) rfl (.cons (.there .here) rfl (.cons (.there .here) rfl (.cons (.there .here) rfl (.cons (.there .here) rfl .nil)))))))) (.cons .here rfl (.cons .here rfl (.cons .here rfl (.cons .here rfl (.cons .here rfl (.cons .here rfl (.cons .here rfl (.cons .here rfl .nil)))))))) rfl ?_))
       have h9 := hN12 b44 z42 hz42
       rw [hG] at h9
       exact RunA.keepR h9 (Sub.cons (t := 44) rfl (Sub.cons (t := 42) rfl (Sub.skip rfl (Sub.skip rfl (Sub.skip rfl (Sub.refl _)))))) (.cons .here rfl (.cons .here rfl (.cons .here rfl (.cons .here rfl (.cons .here rfl (.cons .here rfl (.cons .here rfl (.cons .here rfl (.cons .here rfl (Pick.refl _)))))))))) (by kernel_rfl)
     · refine RunI.new rfl (New.buildSlice0 sl_39) rfl rfl rfl (fun b46 => (RunK.toA (.cons (.there (.there (.there .here))) rfl (.cons (.there (.there (.there .here))) rfl (.cons (.there (.there (.there .here))) rfl (.cons (.there (.there (.there .here))) rfl (.cons (.there (.there (.there .here))) rfl (.cons (.there (.there (.there .here))) rfl (.cons (.there (.there (.there .here))) rfl (.cons (.there (.there (.there .here))) rfl .nil)))))))) (.cons .here rfl (.cons .here rfl (.cons .here rfl (.cons .here rfl (.cons .here rfl (.cons .here rfl (.cons .here rfl (.cons .here rfl .nil)))))))) rfl ?_))
       have h9 := hN15 b46 b44 b39
       rw [hG] at h9
       exact RunA.keepR h9 (Sub.cons (t := 46) rfl (Sub.cons (t := 44) rfl (Sub.cons (t := 39) rfl (Sub.skip rfl (Sub.skip rfl (Sub.skip rfl (Sub.refl _))))))) (.cons .here rfl (.cons .here rfl (.cons .here rfl (.cons .here rfl (.cons .here rfl (.cons .here rfl (.cons .here rfl (.cons .here rfl (.cons .here rfl (.cons .here rfl (.cons .here rfl .nil))))))))))) (by kernel_rfl)
     · refine RunI.new rfl (New.buildSlice (parts := [(0, .tmp 50)]) rfl sl_39 zero_76 rfl rfl rfl rfl) rfl rfl rfl (fun b51 => (RunK.toA (.cons (.there (.there (.there .here))) rfl (.cons (.there (.there (.there .here))) rfl (.cons (.there (.there (.there .here))) rfl (.cons (.there (.there (.there .here))) rfl (.cons (.there (.there (.there .here))) rfl (.cons (.there (.there (.there .here))) rfl (.cons (.there (.there (.there .here))) rfl (.cons (.there (.there (.there .here))) rfl .nil)))))))) (.cons .here rfl (.cons .here rfl (.cons .here rfl (.cons .here rfl (.cons .here rfl (.cons .here rfl (.cons .here rfl (.cons .here rfl .nil)))))))) rfl ?_))
       have h9 := hN16 b51 b44 b39
       rw [hG] at h9
       exact RunA.keepR h9 (Sub.cons (t := 51) rfl (Sub.cons (t := 44) rfl (Sub.cons (t := 39) rfl (Sub.skip rfl (Sub.skip rfl (Sub.skip rfl (Sub.refl _))))))) (.cons .here rfl (.cons .here rfl (.cons .here rfl (.cons .here rfl (.cons .here rfl (.cons .here rfl (.cons .here rfl (.cons .here rfl (.cons .here rfl (.cons .here rfl (.cons .here rfl .nil))))))))))) (by kernel_rfl)
   have hN21 : ∀ (b46 : Nat) (b39 : Nat), G 10 #[true, true, true, false, true, false, false, true, true, true, false, true, false, false, false, false, false, false] ((46, .slice (some ⟨b46, 0, none⟩) 0 0) :: (39, .slice (some ⟨b39, 0, none⟩) 0 0) :: r1) ((b46, .cells [].toArray 76 (0, 0)) :: (b39, .cells [].toArray 74 (0, 0)) :: (n1 ++ [])) := by
     intro b46 b39
     subst hr1 hn1
     rw [hG]
     refine RunA.all (rs := [3, 5, 12]) (by kernel_rfl) (by simp) (by kernel_rfl) (fun m hm => ?_)
     simp only [List.mem_cons, List.not_mem_nil, or_false] at hm
     rcases hm with rfl | rfl | rfl
     · refine RunI.keep (Sub.refl _) (.cons .here rfl (.cons (.there .here) rfl (.cons (.there .here) rfl (.cons (.there .here) rfl (.cons (.there .here) rfl (.cons (.there .here) rfl (.cons (.there .here) rfl (.cons (.there .here) rfl (.cons (.there .here) rfl (.cons .here rfl .nil)))))))))) ?_
       refine RunI.append (A := [(b46, _), (b17, _), (b16, _), (b15, _), (b11, _), (b10, _), (b9, _), (b8, _), (b7, _)]) (B := _) (x := (some (b39, 0, []))) (ys := (c.loans.l.map Ln.cells).flatten) rfl ap_32 rfl rfl rfl OwnOk.empty ln_len hcq (fun w hm => sa_src (by decide) hC.loans hm) ln_one (by simp only [maxLen]; omega) (by omega) rfl (fun z42 hz42 => (RunK.toA (.cons (.there .here) rfl (.cons (.there .here) rfl (.cons (.there .here) rfl (.cons (.there .here) rfl (.cons (.there .here) rfl (.cons (.there .here) rfl (.cons (.there .here) rfl (.cons (.there .here) rfl .nil)))))))) (.cons .here rfl (.cons .here rfl (.cons .here rfl (.cons .here rfl (.cons .here rfl (.cons .here rfl (.cons .here rfl (.cons .here rfl .nil)))))))) rfl ?_))
       have h9 := hN13 b46 z42 hz42
       rw [hG] at h9
       exact RunA.keepR h9 (Sub.cons (t := 46) rfl (Sub.cons (t := 42) rfl (Sub.skip rfl (Sub.skip rfl (Sub.skip rfl (Sub.refl _)))))) (.cons .here rfl (.cons .here rfl (.cons .here rfl (.cons .here rfl (.cons .here rfl (.cons .here rfl (.cons .here rfl (.cons .here rfl (.cons .here rfl (Pick.refl _)))))))))) (by kernel_rfl)
     · refine RunI.new rfl (New.buildSlice (parts := [(0, .tmp 43)]) rfl sl_32 zero_74 rfl rfl rfl rfl) rfl rfl rfl (fun b44 => (RunK.toA (.cons (.there (.there (.there .here))) rfl (.cons (.there (.there (.there .here))) rfl (.cons (.there (.there (.there .here))) rfl (.cons (.there (.there (.there .here))) rfl (.cons (.there (.there (.there .here))) rfl (.cons (.there (.there (.there .here))) rfl (.cons (.there (.there (.there .here))) rfl (.cons (.there (.there (.there .here))) rfl .nil)))))))) (.cons .here rfl (.cons .here rfl (.cons .here rfl (.cons .here rfl (.cons .here rfl (.cons .here rfl (.cons .here rfl (.cons .here rfl .nil)))))))) rfl ?_))
       have h9 := hN15 b46 b44 b39
       rw [hG] at h9
       exact RunA.keepR h9 (Sub.cons (t := 46) rfl (Sub.cons (t := 44) rfl (Sub.cons (t := 39) rfl (Sub.skip rfl (Sub.skip rfl (Sub.skip rfl (Sub.refl _))))))) (.cons (.there .here) rfl (.cons .here rfl (.cons .here rfl (.cons .here rfl (.cons .here rfl (.cons .here rfl (.cons .here rfl (.cons .here rfl (.cons .here rfl (.cons .here rfl (.cons .here rfl .nil))))))))))) (by kernel_rfl)
     · refine RunI.new rfl (New.buildSlice (parts := [(0, .tmp 50)]) rfl sl_39 zero_76 rfl rfl rfl rfl) rfl rfl rfl (fun b51 => (RunK.toA (.cons (.there (.there (.there .here))) rfl (.cons (.there (.there (.there .here))) rfl (.cons (.there (.there (.there .here))) rfl (.cons (.there (.there (.there .here))) rfl (.cons (.there (.there (.there .here))) rfl (.cons (.there (.there (.there .here))) rfl (.cons (.there (.there (.there .here))) rfl (.cons (.there (.there (.there .here))) rfl .nil)))))))) (.cons .here rfl (.cons .here rfl (.cons .here rfl (.cons .here rfl (.cons .here rfl (.cons .here rfl (.cons .here rfl (.cons .here rfl .nil)))))))) rfl ?_))
       have h9 := hN17 b51 b46 b39
       rw [hG] at h9
       exact RunA.keepR h9 (Sub.cons (t := 51) rfl (Sub.cons (t := 46) rfl (Sub.cons (t := 39) rfl (Sub.skip rfl (Sub.skip rfl (Sub.skip rfl (Sub.refl _))))))) (.cons .here rfl (.cons .here rfl (.cons .here rfl (.cons .here rfl (.cons .here rfl (.cons .here rfl (.cons .here rfl (.cons .here rfl (.cons .here rfl (.cons .here rfl (.cons .here rfl .nil))))))))))) (by kernel_rfl)
   have hN22 : ∀ (b51 : Nat) (b39 : Nat), G 10 #[true, true, true, false, true, false, false, false, true, true, false, true, true, false, false, false, false, false] ((51, .slice (some ⟨b51, 0, none⟩) 1 1) :: (39, .slice (some ⟨b39, 0, none⟩) 0 0) :: r1) ((b51, .cells q.cells.toArray 76 (0, 0)) :: (b39, .cells [].toArray 74 (0, 0)) :: (n1 ++ [])) := by
     intro b51 b39
     subst hr1 hn1
     rw [hG]
     refine RunA.all (rs := [3, 5, 7]) (by kernel_rfl) (by simp) (by kernel_rfl) (fun m hm => ?_)
     simp only [List.mem_cons, List.not_mem_nil, or_false] at hm
     rcases hm with rfl | rfl | rfl
     · refine RunI.keep (Sub.refl _) (.cons .here rfl (.cons (.there .here) rfl (.cons (.there .here) rfl (.cons (.there .here) rfl (.cons (.there .here) rfl (.cons (.there .here) rfl (.cons (.there .here) rfl (.cons (.there .here) rfl (.cons (.there .here) rfl (.cons .here rfl .nil)))))))))) ?_
       refine RunI.append (A := [(b51, _), (b17, _), (b16, _), (b15, _), (b11, _), (b10, _), (b9, _), (b8, _), (b7, _)]) (B := _) (x := (some (b39, 0, []))) (ys := (c.loans.l.map Ln.cells).flatten) rfl ap_32 rfl rfl rfl OwnOk.empty ln_len hcq (fun w hm => sa_src (by decide) hC.loans hm) ln_one (by simp only [maxLen]; omega) (by omega) rfl (fun z42 hz42 => (RunK.toA (.cons (.there .here) rfl (.cons (.there .here) rfl (.cons (.there .here) rfl (.cons (.there .here) rfl (.cons (.there .here) rfl (.cons (.there .here) rfl (.cons (.there .here) rfl (.cons (.there .here) rfl .nil)))))))) (.cons .here rfl (.cons .here rfl (.cons .here rfl (.cons .here rfl (.cons .here rfl (.cons .here rfl (.cons .here rfl (.cons .here rfl .nil)))))))) rfl ?_))
       have h9 := hN14 b51 z42 hz42
       rw [hG] at h9
       exact RunA.keepR h9 (Sub.cons (t := 51) rfl (Sub.cons (t := 42) rfl (Sub.skip rfl (Sub.skip rfl (Sub.skip rfl (Sub.refl _)))))) (.cons .here rfl (.cons .here rfl (.cons .here rfl (.cons .here rfl (.cons .here rfl (.cons .here rfl (.cons .here rfl (.cons .here rfl (.cons .here rfl (Pick.refl _)))))))))) (by kernel_rfl)
     · refine RunI.new rfl (New.buildSlice (parts := [(0, .tmp 43)]) rfl sl_32 zero_74 rfl rfl rfl rfl) rfl rfl rfl (fun b44 => (RunK.toA (.cons (.there (.there (.there .here))) rfl (.cons (.there (.there (.there .here))) rfl (.cons (.there (.there (.there .here))) rfl (.cons (.there (.there (.there .here))) rfl (.cons (.there (.there (.there .here))) rfl (.cons (.there (.there (.there .here))) rfl (.cons (.there (.there (.there .here))) rfl (.cons (.there (.there (.there .here))) rfl .nil)))))))) (.cons .here rfl (.cons .here rfl (.cons .here rfl (.cons .here rfl (.cons .here rfl (.cons .here rfl (.cons .here rfl (.cons .here rfl .nil)))))))) rfl ?_))
       have h9 := hN16 b51 b44 b39
       rw [hG] at h9
       exact RunA.keepR h9 (Sub.cons (t := 51) rfl (Sub.cons (t := 44) rfl (Sub.cons (t := 39) rfl (Sub.skip rfl (Sub.skip rfl (Sub.skip rfl (Sub.refl _))))))) (.cons (.there .here) rfl (.cons .here rfl (.cons .here rfl (.cons .here rfl (.cons .here rfl (.cons .here rfl (.cons .here rfl (.cons .here rfl (.cons .here rfl (.cons .here rfl (.cons .here rfl .nil))))))))))) (by kernel_rfl)
     · refine RunI.new rfl (New.buildSlice0 sl_39) rfl rfl rfl (fun b46 => (RunK.toA (.cons (.there (.there (.there .here))) rfl (.cons (.there (.there (.there .here))) rfl (.cons (.there (.there (.there .here))) rfl (.cons (.there (.there (.there .here))) rfl (.cons (.there (.there (.there .here))) rfl (.cons (.there (.there (.there .here))) rfl (.cons (.there (.there (.there .here))) rfl (.cons (.there (.there (.there .here))) rfl .nil)))))))) (.cons .here rfl (.cons .here rfl (.cons .here rfl (.cons .here rfl (.cons .here rfl (.cons .here rfl (.cons .here rfl (.cons .here rfl .nil)))))))) rfl ?_))
       have h9 := hN17 b51 b46 b39
       rw [hG] at h9
       exact RunA.keepR h9 (Sub.cons (t := 51) rfl (Sub.cons (t := 46) rfl (Sub.cons (t := 39) rfl (Sub.skip rfl (Sub.skip rfl (Sub.skip rfl (Sub.refl _))))))) (.cons (.there .here) rfl (.cons .here rfl (.cons .here rfl (.cons .here rfl (.cons .here rfl (.cons .here rfl (.cons .here rfl (.cons .here rfl (.cons .here rfl (.cons .here rfl (.cons .here rfl .nil))))))))))) (by kernel_rfl)
   have hN23 : ∀ (b46 : Nat) (b44 : Nat), G 10 #[false, true, true, false, true, true, false, true, true, true, false, true, false, false, false, false, false, false] ((46, .slice (some ⟨b46, 0, none⟩) 0 0) :: (44, .slice (some ⟨b44, 0, none⟩) 1 1) :: r1) ((b46, .cells [].toArray 76 (0, 0)) :: (b44, .cells l.cells.toArray 74 (0, 0)) :: (n1 ++ [])) := by
     intro b46 b44
     subst hr1 hn1
     rw [hG]
     refine RunA.all (rs := [0, 12]) (by kernel_rfl) (by simp) (by kernel_rfl) (fun m hm => ?_)
     simp only [List.mem_cons, List.not_mem_nil, or_false] at hm
     rcases hm with rfl | rfl
     · refine RunI.new rfl (New.buildSlice0 sl_32) rfl rfl rfl (fun b39 => (RunK.toA (.cons (.there (.there (.there .here))) rfl (.cons (.there (.there (.there .here))) rfl (.cons (.there (.there (.there .here))) rfl (.cons (.there (.there (.there .here))) rfl (.cons (.there (.there (.there .here))) rfl (.cons (.there (.there (.there .here))) rfl (.cons (.there (.there (.there .here))) rfl (.cons (.there (.there (.there .here))) rfl .nil)))))))) (.cons .here rfl (.cons .here rfl (.cons .here rfl (.cons .here rfl (.cons .here rfl (.cons .here rfl (.cons .here rfl (.cons .here rfl .nil)))))))) rfl ?_))
       have h9 := hN15 b46 b44 b39
       rw [hG] at h9
       exact RunA.keepR h9 (Sub.cons (t := 46) rfl (Sub.cons (t := 44) rfl (Sub.cons (t := 39) rfl (Sub.skip rfl (Sub.skip rfl (Sub.skip rfl (Sub.refl _))))))) (.cons (.there .here) rfl (.cons (.there .here) rfl (.cons .here rfl (.cons .here rfl (.cons .here rfl (.cons .here rfl (.cons .here rfl (.cons .here rfl (.cons .here rfl (.cons .here rfl (.cons .here rfl .nil))))))))))) (by kernel_rfl)
     · refine RunI.new rfl (New.buildSlice (parts := [(0, .tmp 50)]) rfl sl_39 zero_76 rfl rfl rfl rfl) rfl rfl rfl (fun b51 => (RunK.toA (.cons (.there (.there (.there .here))) rfl (.cons (.there (.there (.there .here))) rfl (.cons (.there (.there (.there .here))) rfl (.cons (.there (.there (.there .here))) rfl (.cons (.there (.there (.there .here))) rfl (.cons (.there (.there (.there .here))) rfl (.cons (.there (.there (.there .here))) rfl (.cons (.there (.there (.there .here))) rfl .nil)))))))) (.cons .here rfl (.cons .here rfl (.cons .here rfl (.cons .here rfl (.cons .here rfl (.cons .here rfl (.cons .here rfl (.cons .here rfl .nil)))))))) rfl ?_))
       have h9 := hN18 b51 b46 b44
       rw [hG] at h9
       exact RunA.keepR h9 (Sub.cons (t := 51) rfl (Sub.cons (t := 46) rfl (Sub.cons (t := 44) rfl (Sub.skip rfl (Sub.skip rfl (Sub.skip rfl (Sub.refl _))))))) (.cons .here rfl (.cons .here rfl (.cons .here rfl (.cons .here rfl (.cons .here rfl (.cons .here rfl (.cons .here rfl (.cons .here rfl (.cons .here rfl (.cons .here rfl (.cons .here rfl .nil))))))))))) (by kernel_rfl)
   have hN24 : ∀ (b51 : Nat) (b44 : Nat), G 10 #[false, true, true, false, true, true, false, false, true, true, false, true, true, false, false, false, false, false] ((51, .slice (some ⟨b51, 0, none⟩) 1 1) :: (44, .slice (some ⟨b44, 0, none⟩) 1 1) :: r1) ((b51, .cells q.cells.toArray 76 (0, 0)) :: (b44, .cells l.cells.toArray 74 (0, 0)) :: (n1 ++ [])) := by
     intro b51 b44
     subst hr1 hn1
     rw [hG]
     refine RunA.all (rs := [0, 7]) (by kernel_rfl) (by simp) (by kernel_rfl) (fun m hm => ?_)
     simp only [List.mem_cons, List.not_mem_nil, or_false] at hm
     rcases hm with rfl | rfl
     · refine RunI.new rfl (New.buildSlice0 sl_32) rfl rfl rfl (fun b39 => (RunK.toA (.cons (.there (.there (.there .here))) rfl (.cons (.there (.there (.there .here))) rfl (.cons (.there (.there (.there .here))) rfl (.cons (.there (.there (.there .here))) rfl (.cons (.there (.there (.there .here))) rfl (.cons (.there (.there (.there .here))) rfl (.cons (.there (.there (.there .here))) rfl (.cons (.there (.there (.there .here))) rfl .nil)))))))) (.cons .here rfl (.cons .here rfl (.cons .here rfl (.cons .here rfl (.cons .here rfl (.cons .here rfl (.cons .here rfl (.cons .here rfl .nil)))))))) rfl ?_))
       have h9 := hN16 b51 b44 b39
       rw [hG] at h9
       exact RunA.keepR h9 (Sub.cons (t := 51) rfl (Sub.cons (t := 44) rfl (Sub.cons (t := 39) rfl (Sub.skip rfl (Sub.skip rfl (Sub.skip rfl (Sub.refl _))))))) (.cons (.there .here) rfl (.cons (.there .here) rfl (.cons .here rfl (.cons .here rfl (.cons .here rfl (.cons .here rfl (.cons .here rfl (.cons .here rfl (.cons .here rfl (.cons .here rfl (.cons .here rfl .nil))))))))))) (by kernel_rfl)
     · refine RunI.new rfl (New.buildSlice0 sl_39) rfl rfl rfl (fun b46 => (RunK.toA (.cons (.there (.there (.there .here))) rfl (.cons (.there (.there (.there .here))) rfl (.cons (.there (.there (.there .here))) rfl (.cons (.there (.there (.there .here))) rfl (.cons (.there (.there (.there .here))) rfl (.cons (.there (.there (.there .here))) rfl (.cons (.there (.there (.there .here))) rfl (.cons (.there (.there (.there .here))) rfl .nil)))))))) (.cons .here rfl (.cons .here rfl (.cons .here rfl (.cons .here rfl (.cons .here rfl (.cons .here rfl (.cons .here rfl (.cons .here rfl .nil)))))))) rfl ?_))
       have h9 := hN18 b51 b46 b44
       rw [hG] at h9
       exact RunA.keepR h9 (Sub.cons (t := 51) rfl (Sub.cons (t := 46) rfl (Sub.cons (t := 44) rfl (Sub.skip rfl (Sub.skip rfl (Sub.skip rfl (Sub.refl _))))))) (.cons (.there .here) rfl (.cons .here rfl (.cons .here rfl (.cons .here rfl (.cons .here rfl (.cons .here rfl (.cons .here rfl (.cons .here rfl (.cons .here rfl (.cons .here rfl (.cons .here rfl .nil))))))))))) (by kernel_rfl)
   have hN25 : ∀ (b51 : Nat) (b46 : Nat), G 10 #[false, true, true, false, true, false, false, true, true, true, false, true, true, false, false, false, false, false] ((51, .slice (some ⟨b51, 0, none⟩) 1 1) :: (46, .slice (some ⟨b46, 0, none⟩) 0 0) :: r1) ((b51, .cells q.cells.toArray 76 (0, 0)) :: (b46, .cells [].toArray 76 (0, 0)) :: (n1 ++ [])) := by
     intro b51 b46
     subst hr1 hn1
     rw [hG]
     refine RunA.all (rs := [0, 5]) (by kernel_rfl) (by simp) (by kernel_rfl) (fun m hm => ?_)
     simp only [List.mem_cons, List.not_mem_nil, or_false] at hm
     rcases hm with rfl | rfl
     · refine RunI.new rfl (New.buildSlice0 sl_32) rfl rfl rfl (fun b39 => (RunK.toA (.cons (.there (.there (.there .here))) rfl (.cons (.there (.there (.there .here))) rfl (.cons (.there (.there (.there .here))) rfl (.cons (.there (.there (.there .here))) rfl (.cons (.there (.there (.there .here))) rfl (.cons (.there (.there (.there .here))) rfl (.cons (.there (.there (.there .here))) rfl (.cons (.there (.there (.there .here))) rfl .nil)))))))) (.cons .here rfl (.cons .here rfl (.cons .here rfl (.cons .here rfl (.cons .here rfl (.cons .here rfl (.cons .here rfl (.cons .here rfl .nil)))))))) rfl ?_))
       have h9 := hN17 b51 b46 b39
       rw [hG] at h9
       exact RunA.keepR h9 (Sub.cons (t := 51) rfl (Sub.cons (t := 46) rfl (Sub.cons (t := 39) rfl (Sub.skip rfl (Sub.skip rfl (Sub.skip rfl (Sub.refl _))))))) (.cons (.there .here) rfl (.cons (.there .here) rfl (.cons .here rfl (.cons .here rfl (.cons .here rfl (.cons .here rfl (.cons .here rfl (.cons .here rfl (.cons .here rfl (.cons .here rfl (.cons .here rfl .nil))))))))))) (by kernel_rfl)
     · refine RunI.new rfl (New.buildSlice (parts := [(0, .tmp 43)]) rfl sl_32 zero_74 rfl rfl rfl rfl) rfl rfl rfl (fun b44 => (RunK.toA (.cons (.there (.there (.there .here))) rfl (.cons (.there (.there (.there .here))) rfl (.cons (.there (.there (.there .here))) rfl (.cons (.there (.there (.there .here))) rfl (.cons (.there (.there (.there .here))) rfl (.cons (.there (.there (.there .here))) rfl (.cons (.there (.there (.there .here))) rfl (.cons (.there (.there (.there .here))) rfl .nil)))))))) (.cons .here rfl (.cons .here rfl (.cons .here rfl (.cons .here rfl (.cons .here rfl (.cons .here rfl (.cons .here rfl (.cons .here rfl .nil)))))))) rfl ?_))
       have h9 := hN18 b51 b46 b44
       rw [hG] at h9
       exact RunA.keepR h9 (Sub.cons (t := 51) rfl (Sub.cons (t := 46) rfl (Sub.cons (t := 44) rfl (Sub.skip rfl (Sub.skip rfl (Sub.skip rfl (Sub.refl _))))))) (.cons (.there .here) rfl (.cons (.there .here) rfl (.cons .here rfl (.cons .here rfl (.cons .here rfl (.cons .here rfl (.cons .here rfl (.cons .here rfl (.cons .here rfl (.cons .here rfl (.cons .here rfl .nil))))))))))) (by kernel_rfl)
   have hN26 : ∀ (b39 : Nat), G 11 #[true, true, true, false, true, false, false, false, true, true, false, true, false, false, false, false, false, false] ((39, .slice (some ⟨b39, 0, none⟩) 0 0) :: r1) ((b39, .cells [].toArray 74 (0, 0)) :: (n1 ++ [])) := by
     intro b39
     subst hr1 hn1
     rw [hG]
     refine RunA.all (rs := [3, 5, 7, 12]) (by kernel_rfl) (by simp) (by kernel_rfl) (fun m hm => ?_)
     simp only [List.mem_cons, List.not_mem_nil, or_false] at hm
     rcases hm with rfl | rfl | rfl | rfl
     · refine RunI.keep (Sub.refl _) (.cons (.there .here) rfl (.cons (.there .here) rfl (.cons (.there .here) rfl (.cons (.there .here) rfl (.cons (.there .here) rfl (.cons (.there .here) rfl (.cons (.there .here) rfl (.cons (.there .here) rfl (.cons .here rfl .nil))))))))) ?_
       refine RunI.append (A := [(b17, _), (b16, _), (b15, _), (b11, _), (b10, _), (b9, _), (b8, _), (b7, _)]) (B := _) (x := (some (b39, 0, []))) (ys := (c.loans.l.map Ln.cells).flatten) rfl ap_32 rfl rfl rfl OwnOk.empty ln_len hcq (fun w hm => sa_src (by decide) hC.loans hm) ln_one (by simp only [maxLen]; omega) (by omega) rfl (fun z42 hz42 => (RunK.toA (.cons .here rfl (.cons .here rfl (.cons .here rfl (.cons .here rfl (.cons .here rfl (.cons .here rfl (.cons .here rfl (.cons .here rfl .nil)))))))) (.cons .here rfl (.cons .here rfl (.cons .here rfl (.cons .here rfl (.cons .here rfl (.cons .here rfl (.cons .here rfl (.cons .here rfl .nil)))))))) rfl ?_))
       have h9 := hN19 z42 hz42
       rw [hG] at h9
       exact RunA.keepR h9 (Sub.cons (t := 42) rfl (Sub.skip rfl (Sub.skip rfl (Sub.refl _)))) (.cons .here rfl (.cons .here rfl (.cons .here rfl (.cons .here rfl (.cons .here rfl (.cons .here rfl (.cons .here rfl (.cons .here rfl (Pick.refl _))))))))) (by kernel_rfl)
     · refine RunI.new rfl (New.buildSlice (parts := [(0, .tmp 43)]) rfl sl_32 zero_74 rfl rfl rfl rfl) rfl rfl rfl (fun b44 => (RunK.toA (.cons (.there (.there .here)) rfl (.cons (.there (.there .here)) rfl (.cons (.there (.there .here)) rfl (.cons (.there (.there .here)) rfl (.cons (.there (.there .here)) rfl (.cons (.there (.there .here)) rfl (.cons (.there (.there .here)) rfl (.cons (.there (.there .here)) rfl .nil)))))))) (.cons .here rfl (.cons .here rfl (.cons .here rfl (.cons .here rfl (.cons .here rfl (.cons .here rfl (.cons .here rfl (.cons .here rfl .nil)))))))) rfl ?_))
       have h9 := hN20 b44 b39
       rw [hG] at h9
       exact RunA.keepR h9 (Sub.cons (t := 44) rfl (Sub.cons (t := 39) rfl (Sub.skip rfl (Sub.skip rfl (Sub.refl _))))) (.cons .here rfl (.cons .here rfl (.cons .here rfl (.cons .here rfl (.cons .here rfl (.cons .here rfl (.cons .here rfl (.cons .here rfl (.cons .here rfl (.cons .here rfl .nil)))))))))) (by kernel_rfl)
     · refine RunI.new rfl (New.buildSlice0 sl_39) rfl rfl rfl (fun b46 => (RunK.toA (.cons (.there (.there .here)) rfl (.cons (.there (.there .here)) rfl (.cons (.there (.there .here)) rfl (.cons (.there (.there .here)) rfl (.cons (.there (.there .here)) rfl (.cons (.there (.there .here)) rfl (.cons (.there (.there .here)) rfl (.cons (.there (.there .here)) rfl .nil)))))))) (.cons .here rfl (.cons .here rfl (.cons .here rfl (.cons .here rfl (.cons .here rfl (.cons .here rfl (.cons .here rfl (.cons .here rfl .nil)))))))) rfl ?_))
       have h9 := hN21 b46 b39
       rw [hG] at h9
       exact RunA.keepR h9 (Sub.cons (t := 46) rfl (Sub.cons (t := 39) rfl (Sub.skip rfl (Sub.skip rfl (Sub.refl _))))) (.cons .here rfl (.cons .here rfl (.cons .here rfl (.cons .here rfl (.cons .here rfl (.cons .here rfl (.cons .here rfl (.cons .here rfl (.cons .here rfl (.cons .here rfl .nil)))))))))) (by kernel_rfl)
     · refine RunI.new rfl (New.buildSlice (parts := [(0, .tmp 50)]) rfl sl_39 zero_76 rfl rfl rfl rfl) rfl rfl rfl (fun b51 => (RunK.toA (.cons (.there (.there .here)) rfl (.cons (.there (.there .here)) rfl (.cons (.there (.there .here)) rfl (.cons (.there (.there .here)) rfl (.cons (.there (.there .here)) rfl (.cons (.there (.there .here)) rfl (.cons (.there (.there .here)) rfl (.cons (.there (.there .here)) rfl .nil)))))))) (.cons .here rfl (.cons .here rfl (.cons .here rfl (.cons .here rfl (.cons .here rfl (.cons .here rfl (.cons .here rfl (.cons .here rfl .nil)))))))) rfl ?_))
       have h9 := hN22 b51 b39
       rw [hG] at h9
       exact RunA.keepR h9 (Sub.cons (t := 51) rfl (Sub.cons (t := 39) rfl (Sub.skip rfl (Sub.skip rfl (Sub.refl _))))) (.cons .here rfl (.cons .here rfl (.cons .here rfl (.cons .here rfl (.cons .here rfl (.cons .here rfl (.cons .here rfl (.cons .here rfl (.cons .here rfl (.cons .here rfl .nil)))))))))) (by kernel_rfl)
   have hN27 : ∀ (b44 : Nat), G 11 #[false, true, true, false, true, true, false, false, true, true, false, true, false, false, false, false, false, false] ((44, .slice (some ⟨b44, 0, none⟩) 1 1) :: r1) ((b44, .cells l.cells.toArray 74 (0, 0)) :: (n1 ++ [])) := by
     intro b44
     subst hr1 hn1
     rw [hG]
     refine RunA.all (rs := [0, 7, 12]) (by kernel_rfl) (by simp) (by kernel_rfl) (fun m hm => ?_)
     simp only [List.mem_cons, List.not_mem_nil, or_false] at hm
     rcases hm with rfl | rfl | rfl
     · refine RunI.new rfl (New.buildSlice0 sl_32) rfl rfl rfl (fun b39 => (RunK.toA (.cons (.there (.there .here)) rfl (.cons (.there (.there .here)) rfl (.cons (.there (.there .here)) rfl (.cons (.there (.there .here)) rfl (.cons (.there (.there .here)) rfl (.cons (.there (.there .here)) rfl (.cons (.there (.there .here)) rfl (.cons (.there (.there .here)) rfl .nil)))))))) (.cons .here rfl (.cons .here rfl (.cons .here rfl (.cons .here rfl (.cons .here rfl (.cons .here rfl (.cons .here rfl (.cons .here rfl .nil)))))))) rfl ?_))
       have h9 := hN20 b44 b39
       rw [hG] at h9
       exact RunA.keepR h9 (Sub.cons (t := 44) rfl (Sub.cons (t := 39) rfl (Sub.skip rfl (Sub.skip rfl (Sub.refl _))))) (.cons (.there .here) rfl (.cons .here rfl (.cons .here rfl (.cons .here rfl (.cons .here rfl (.cons .here rfl (.cons .here rfl (.cons .here rfl (.cons .here rfl (.cons .here rfl .nil)))))))))) (by kernel_rfl)
     · refine RunI.new rfl (New.buildSlice0 sl_39) rfl rfl rfl (fun b46 => (RunK.toA (.cons (.there (.there .here)) rfl (.cons (.there (.there .here)) rfl (.cons (.there (.there .here)) rfl (.cons (.there (.there .here)) rfl (.cons (.there (.there .here)) rfl (.cons (.there (.there .here)) rfl (.cons (.there (.there .here)) rfl (.cons (.there (.there .here)) rfl .nil)))))))) (.cons .here rfl (.cons .here rfl (.cons .here rfl (.cons .here rfl (.cons .here rfl (.cons .here rfl (.cons .here rfl (.cons .here rfl .nil)))))))) rfl ?_))
       have h9 := hN23 b46 b44
       rw [hG] at h9
       exact RunA.keepR h9 (Sub.cons (t := 46) rfl (Sub.cons (t := 44) rfl (Sub.skip rfl (Sub.skip rfl (Sub.refl _))))) (.cons .here rfl (.cons .here rfl (.cons .here rfl (.cons .here rfl (.cons .here rfl (.cons .here rfl (.cons .here rfl (.cons .here rfl (.cons .here rfl (.cons .here rfl .nil)))))))))) (by kernel_rfl)
     · refine RunI.new rfl (New.buildSlice (parts := [(0, .tmp 50)]) rfl sl_39 zero_76 rfl rfl rfl rfl) rfl rfl rfl (fun b51 => (RunK.toA (.cons (.there (.there .here)) rfl (.cons (.there (.there .here)) rfl (.cons (.there (.there .here)) rfl (.cons (.there (.there .here)) rfl (.cons (.there (.there .here)) rfl (.cons (.there (.there .here)) rfl (.cons (.there (.there .here)) rfl (.cons (.there (.there .here)) rfl .nil)))))))) (.cons .here rfl (.cons .here rfl (.cons .here rfl (.cons .here rfl (.cons .here rfl (.cons .here rfl (.cons .here rfl (.cons .here rfl .nil)))))))) rfl ?_))
       have h9 := hN24 b51 b44
       rw [hG] at h9
       exact RunA.keepR h9 (Sub.cons (t := 51) rfl (Sub.cons (t := 44) rfl (Sub.skip rfl (Sub.skip rfl (Sub.refl _))))) (.cons .here rfl (.cons .here rfl (.cons .here rfl (.cons .here rfl (.cons .here rfl (.cons .here rfl (.cons .here rfl (.cons .here rfl (.cons .here rfl (.cons .here rfl .nil)))))))))) (by kernel_rfl)
   have hN28 : ∀ (b46 : Nat), G 11 #[false, true, true, false, true, false, false, true, true, true, false, true, false, false, false, false, false, false] ((46, .slice (some ⟨b46, 0, none⟩) 0 0) :: r1) ((b46, .cells [].toArray 76 (0, 0)) :: (n1 ++ [])) := by
     intro b46
     subst hr1 hn1
     rw [hG]
     refine RunA.all (rs := [0, 5, 12]) (by kernel_rfl) (by simp) (by kernel_rfl) (fun m hm => ?_)
     simp only [List.mem_cons, List.not_mem_nil, or_false] at hm
     rcases hm with rfl | rfl | rfl
     · refine RunI.new rfl (New.buildSlice0 sl_32) rfl rfl rfl (fun b39 => (RunK.toA (.cons (.there (.there .here)) rfl (.cons (.there (.there .here)) rfl (.cons (.there (.there .here)) rfl (.cons (.there (.there .here)) rfl (.cons (.there (.there .here)) rfl (.cons (.there (.there .here)) rfl (.cons (.there (.there .here)) rfl (.cons (.there (.there .here)) rfl .nil)))))))) (.cons .here rfl (.cons .here rfl (.cons .here rfl (.cons .here rfl (.cons .here rfl (.cons .here rfl (.cons .here rfl (.cons .here rfl .nil)))))))) rfl ?_))
       have h9 := hN21 b46 b39
       rw [hG] at h9
       exact RunA.keepR h9 (Sub.cons (t := 46) rfl (Sub.cons (t := 39) rfl (Sub.skip rfl (Sub.skip rfl (Sub.refl _))))) (.cons (.there .here) rfl (.cons .here rfl (.cons .here rfl (.cons .here rfl (.cons .here rfl (.cons .here rfl (.cons .here rfl (.cons .here rfl (.cons .here rfl (.cons .here rfl .nil)))))))))) (by kernel_rfl)
     · refine RunI.new rfl (New.buildSlice (parts := [(0, .tmp 43)]) rfl sl_32 zero_74 rfl rfl rfl rfl) rfl rfl rfl (fun b44 => (RunK.toA (.cons (.there (.there .here)) rfl (.cons (.there (.there .here)) rfl (.cons (.there (.there .here)) rfl (.cons (.there (.there .here)) rfl (.cons (.there (.there .here)) rfl (.cons (.there (.there .here)) rfl (.cons (.there (.there .here)) rfl (.cons (.there (.there .here)) rfl .nil)))))))) (.cons .here rfl (.cons .here rfl (.cons .here rfl (.cons .here rfl (.cons .here rfl (.cons .here rfl (.cons .here rfl (.cons .here rfl .nil)))))))) rfl ?_))
       have h9 := hN23 b46 b44
       rw [hG] at h9
       exact RunA.keepR h9 (Sub.cons (t := 46) rfl (Sub.cons (t := 44) rfl (Sub.skip rfl (Sub.skip rfl (Sub.refl _))))) (.cons (.there .here) rfl (.cons .here rfl (.cons .here rfl (.cons .here rfl (.cons .here rfl (.cons .here rfl (.cons .here rfl (.cons .here rfl (.cons .here rfl (.cons .here rfl .nil)))))))))) (by kernel_rfl)
     · refine RunI.new rfl (New.buildSlice (parts := [(0, .tmp 50)]) rfl sl_39 zero_76 rfl rfl rfl rfl) rfl rfl rfl (fun b51 => (RunK.toA (.cons (.there (.there .here)) rfl (.cons (.there (.there .here)) rfl (.cons (.there (.there .here)) rfl (.cons (.there (.there .here)) rfl (.cons (.there (.there .here)) rfl (.cons (.there (.there .here)) rfl (.cons (.there (.there .here)) rfl (.cons (.there (.there .here)) rfl .nil)))))))) (.cons .here rfl (.cons .here rfl (.cons .here rfl (.cons .here rfl (.cons .here rfl (.cons .here rfl (.cons .here rfl (.cons .here rfl .nil)))))))) rfl ?_))
       have h9 := hN25 b51 b46
       rw [hG] at h9
       exact RunA.keepR h9 (Sub.cons (t := 51) rfl (Sub.cons (t := 46) rfl (Sub.skip rfl (Sub.skip rfl (Sub.refl _))))) (.cons .here rfl (.cons .here rfl (.cons .here rfl (.cons .here rfl (.cons .here rfl (.cons .here rfl (.cons .here rfl (.cons .here rfl (.cons .here rfl (.cons .here rfl .nil)))))))))) (by kernel_rfl)
   have hN29 : ∀ (b51 : Nat), G 11 #[false, true, true, false, true, false, false, false, true, true, false, true, true, false, false, false, false, false] ((51, .slice (some ⟨b51, 0, none⟩) 1 1) :: r1) ((b51, .cells q.cells.toArray 76 (0, 0)) :: (n1 ++ [])) := by
     intro b51
     subst hr1 hn1
     rw [hG]
     refine RunA.all (rs := [0, 5, 7]) (by kernel_rfl) (by simp) (by kernel_rfl) (fun m hm => ?_)
     simp only [List.mem_cons, List.not_mem_nil, or_false] at hm
     rcases hm with rfl | rfl | rfl
     · refine RunI.new rfl (New.buildSlice0 sl_32) rfl rfl rfl (fun b39 => (RunK.toA (.cons (.there (.there .here)) rfl (.cons (.there (.there .here)) rfl (.cons (.there (.there .here)) rfl (.cons (.there (.there .here)) rfl (.cons (.there (.there .here)) rfl (.cons (.there (.there .here)) rfl (.cons (.there (.there .here)) rfl (.cons (.there (.there .here)) rfl .nil)))))))) (.cons .here rfl (.cons .here rfl (.cons .here rfl (.cons .here rfl (.cons .here rfl (.cons .here rfl (.cons .here rfl (.cons .here rfl .nil)))))))) rfl ?_))
       have h9 := hN22 b51 b39
       rw [hG] at h9
       exact RunA.keepR h9 (Sub.cons (t := 51) rfl (Sub.cons (t := 39) rfl (Sub.skip rfl (Sub.skip rfl (Sub.refl _))))) (.cons (.there .here) rfl (.cons .here rfl (.cons .here rfl (.cons .here rfl (.cons .here rfl (.cons .here rfl (.cons .here rfl (.cons .here rfl (.cons .here rfl (.cons .here rfl .nil)))))))))) (by kernel_rfl)
     · refine RunI.new rfl (New.buildSlice (parts := [(0, .tmp 43)]) rfl sl_32 zero_74 rfl rfl rfl rfl) rfl rfl rfl (fun b44 => (RunK.toA (.cons (.there (.there .here)) rfl (.cons (.there (.there .here)) rfl (.cons (.there (.there .here)) rfl (.cons (.there (.there .here)) rfl (.cons (.there (.there .here)) rfl (.cons (.there (.there .here)) rfl (.cons (.there (.there .here)) rfl (.cons (.there (.there .here)) rfl .nil)))))))) (.cons .here rfl (.cons .here rfl (.cons .here rfl (.cons .here rfl (.cons .here rfl (.cons .here rfl (.cons .here rfl (.cons .here rfl .nil)))))))) rfl ?_))
       have h9 := hN24 b51 b44
       rw [hG] at h9
       exact RunA.keepR h9 (Sub.cons (t := 51) rfl (Sub.cons (t := 44) rfl (Sub.skip rfl (Sub.skip rfl (Sub.refl _))))) (.cons (.there .here) rfl (.cons .here rfl (.cons .here rfl (.cons .here rfl (.cons .here rfl (.cons .here rfl (.cons .here rfl (.cons .here rfl (.cons .here rfl (.cons .here rfl .nil)))))))))) (by kernel_rfl)
     · refine RunI.new rfl (New.buildSlice0 sl_39) rfl rfl rfl (fun b46 => (RunK.toA (.cons (.there (.there .here)) rfl (.cons (.there (.there .here)) rfl (.cons (.there (.there .here)) rfl (.cons (.there (.there .here)) rfl (.cons (.there (.there .here)) rfl (.cons (.there (.there .here)) rfl (.cons (.there (.there .here)) rfl (.cons (.there (.there .here)) rfl .nil)))))))) (.cons .here rfl (.cons .here rfl (.cons .here rfl (.cons .here rfl (.cons .here rfl (.cons .here rfl (.cons .here rfl (.cons .here rfl .nil)))))))) rfl ?_))
       have h9 := hN25 b51 b46
       rw [hG] at h9
       exact RunA.keepR h9 (Sub.cons (t := 51) rfl (Sub.cons (t := 46) rfl (Sub.skip rfl (Sub.skip rfl (Sub.refl _))))) (.cons (.there .here) rfl (.cons .here rfl (.cons .here rfl (.cons .here rfl (.cons .here rfl (.cons .here rfl (.cons .here rfl (.cons .here rfl (.cons .here rfl (.cons .here rfl .nil)))))))))) (by kernel_rfl)
   have hN30 : G 12 #[false, true, true, false, true, false, false, false, true, true, false, true, false, false, false, false, false, false] (r1) ((n1 ++ [])) := by
     subst hr1 hn1
     rw [hG]
     refine RunA.all (rs := [0, 5, 7, 12]) (by kernel_rfl) (by simp) (by kernel_rfl) (fun m hm => ?_)
     simp only [List.mem_cons, List.not_mem_nil, or_false] at hm
     rcases hm with rfl | rfl | rfl | rfl
     · refine RunI.new rfl (New.buildSlice0 sl_32) rfl rfl rfl (fun b39 => (RunK.toA (.cons (.there .here) rfl (.cons (.there .here) rfl (.cons (.there .here) rfl (.cons (.there .here) rfl (.cons (.there .here) rfl (.cons (.there .here) rfl (.cons (.there .here) rfl (.cons (.there .here) rfl .nil)))))))) (.cons .here rfl (.cons .here rfl (.cons .here rfl (.cons .here rfl (.cons .here rfl (.cons .here rfl (.cons .here rfl (.cons .here rfl .nil)))))))) rfl ?_))
       have h9 := hN26 b39
       rw [hG] at h9
       exact RunA.keepR h9 (Sub.cons (t := 39) rfl (Sub.skip rfl (Sub.refl _))) (.cons .here rfl (.cons .here rfl (.cons .here rfl (.cons .here rfl (.cons .here rfl (.cons .here rfl (.cons .here rfl (.cons .here rfl (.cons .here rfl .nil))))))))) (by kernel_rfl)
     · refine RunI.new rfl (New.buildSlice (parts := [(0, .tmp 43)]) rfl sl_32 zero_74 rfl rfl rfl rfl) rfl rfl rfl (fun b44 => (RunK.toA (.cons (.there .here) rfl (.cons (.there .here) rfl (.cons (.there .here) rfl (.cons (.there .here) rfl (.cons (.there .here) rfl (.cons (.there .here) rfl (.cons (.there .here) rfl (.cons (.there .here) rfl .nil)))))))) (.cons .here rfl (.cons .here rfl (.cons .here rfl (.cons .here rfl (.cons .here rfl (.cons .here rfl (.cons .here rfl (.cons .here rfl .nil)))))))) rfl ?_))
       have h9 := hN27 b44
       rw [hG] at h9
       exact RunA.keepR h9 (Sub.cons (t := 44) rfl (Sub.skip rfl (Sub.refl _))) (.cons .here rfl (.cons .here rfl (.cons .here rfl (.cons .here rfl (.cons .here rfl (.cons .here rfl (.cons .here rfl (.cons .here rfl (.cons .here rfl .nil))))))))) (by kernel_rfl)
     · refine RunI.new rfl (New.buildSlice0 sl_39) rfl rfl rfl (fun b46 => (RunK.toA (.cons (.there .here) rfl (.cons (.there .here) rfl (.cons (.there .here) rfl (.cons (.there .here) rfl (.cons (.there .here) rfl (.cons (.there .here) rfl (.cons (.there .here) rfl (.cons (.there .here) rfl .nil)))))))) (.cons .here rfl (.cons .here rfl (.cons .here rfl (.cons .here rfl (.cons .here rfl (.cons .here rfl (.cons .here rfl (.cons .here rfl .nil)))))))) rfl ?_))
       have h9 := hN28 b46
       rw [hG] at h9
       exact RunA.keepR h9 (Sub.cons (t := 46) rfl (Sub.skip rfl (Sub.refl _))) (.cons .here rfl (.cons .here rfl (.cons .here rfl (.cons .here rfl (.cons .here rfl (.cons .here rfl (.cons .here rfl (.cons .here rfl (.cons .here rfl .nil))))))))) (by kernel_rfl)
     · refine RunI.new rfl (New.buildSlice (parts := [(0, .tmp 50)]) rfl sl_39 zero_76 rfl rfl rfl rfl) rfl rfl rfl (fun b51 => (RunK.toA (.cons (.there .here) rfl (.cons (.there .here) rfl (.cons (.there .here) rfl (.cons (.there .here) rfl (.cons (.there .here) rfl (.cons (.there .here) rfl (.cons (.there .here) rfl (.cons (.there .here) rfl .nil)))))))) (.cons .here rfl (.cons .here rfl (.cons .here rfl (.cons .here rfl (.cons .here rfl (.cons .here rfl (.cons .here rfl (.cons .here rfl .nil)))))))) rfl ?_))
       have h9 := hN29 b51
       rw [hG] at h9
       exact RunA.keepR h9 (Sub.cons (t := 51) rfl (Sub.skip rfl (Sub.refl _))) (.cons .here rfl (.cons .here rfl (.cons .here rfl (.cons .here rfl (.cons .here rfl (.cons .here rfl (.cons .here rfl (.cons .here rfl (.cons .here rfl .nil))))))))) (by kernel_rfl)
   have h9 := hN30
   subst hr1 hn1
   exact h9
  intro o oI
  obtain ⟨o1, o2⟩ := o
  obtain ⟨ho1, ho2⟩ := oI
  dsimp only at ho1 ho2 ⊢
  refine RunE.next ?_
  refine RunC.seq ?_
  have hGc := grows_c (c := c.pl) (l := l)
  have hGr := grows_r (r := r.pl) (l := q)
  refine RunC.region ?_
  refine RunL.val (Val.load_agg rfl (.tail _ (.tail _ (.tail _ (.head _)))) ty_34 rfl) rfl rfl rfl ?_
  refine RunL.callP (isCall_func rfl ent_15) rfl rfl rfl (fun w hm => WriteCabinet_calls c hsc w (hL.mono hm) (hC.mono0 hm)) ?_
  iterate 5 refine vp rfl rfl rfl rfl ?_
  refine nsr ?_
  refine RunL.val (Val.load_agg rfl (.head _) ty_34 rfl) rfl rfl rfl ?_
  refine RunL.callP (isCall_func rfl ent_15) rfl rfl rfl (fun w hm => writeCm_calls c hsc hcl o1 l ho1 w (hL.mono hm) (hC.mono0 hm) (fun b o h => hm.at (.tail _ (.tail _ (.tail _ (.tail _ (.tail _ (.tail _ ((by first | exact List.mem_append_left _ h | exact List.mem_append_right _ (List.mem_append_left _ h))))))))))) ?_
  iterate 5 refine vp rfl rfl rfl rfl ?_
  refine nsr ?_
  refine RunL.val (Val.load_agg rfl (.tail _ (.tail _ (.tail _ (.tail _ (.head _))))) ty_41 rfl) rfl rfl rfl ?_
  refine RunL.callP (isCall_func rfl ent_17) rfl rfl rfl (fun w hm => WriteRoyal_calls r hsr w (hL.mono hm) (hR.mono0 hm)) ?_
  iterate 5 refine vp rfl rfl rfl rfl ?_
  refine nsr ?_
  refine RunL.val (Val.load_agg rfl (.tail _ (.head _)) ty_41 rfl) rfl rfl rfl ?_
  refine RunL.callP (isCall_func rfl ent_17) rfl rfl rfl (fun w hm => writeRm_calls r hsr hrl o2 q ho2 w (hL.mono hm) (hR.mono0 hm) (fun b o h => hm.at (.tail _ (.tail _ (.tail _ (.tail _ (.tail _ (.tail _ ((by first | exact List.mem_append_right _ (List.mem_append_left _ h) | exact List.mem_append_right _ (List.mem_append_right _ (List.mem_append_left _ h)))))))))))) ?_
  iterate 5 refine vp rfl rfl rfl rfl ?_
  refine nnx ?_
  refine RunC.seq ?_
  refine csr ?_
  iterate 3 refine vp rfl rfl rfl rfl ?_
  refine RunL.andPart (dj := 77) (dp := 93) 16 rfl (fun g77 => by
    have g77' := g77
    try simp only [nH] at g77'
    iterate 3 refine vp rfl rfl rfl rfl ?_
    refine RunL.orPart (dj := 80) (dp := 85) 5 rfl (fun g80 => by
      have g80' := g80
      try simp only [nH] at g80'
      refine vp rfl rfl rfl rfl ?_
      refine vp rfl rfl rfl rfl ?_
      refine RunL.callP (isCall_func rfl ent_26) rfl rfl rfl (fun w hm => hasPrefix_calls _ _ w) ?_
      refine vp rfl rfl rfl rfl ?_
      refine vp rfl rfl rfl rfl ?_
      exact RunL.segEnd (Sub.cons rfl (Sub.skip rfl (Sub.skip rfl (Sub.skip rfl (Sub.skip rfl (Sub.skip rfl (Sub.same rfl (by rw [g80]) (Sub.refl _)))))))) (List.Sublist.refl _)
    ) (fun g80 => by
      have g80' := g80
      try simp only [nH] at g80'
      iterate 4 refine RunL.no rfl rfl rfl ?_
      refine vp rfl rfl rfl rfl ?_
      exact RunL.segEnd (Sub.cons rfl (Sub.skip rfl (Sub.skip rfl (Sub.skip rfl (Sub.skip rfl (Sub.skip rfl (Sub.same rfl (by rw [g80]) (Sub.refl _)))))))) (List.Sublist.refl _)
    ) ?_
    refine vp rfl rfl rfl rfl ?_
    refine RunL.orPart (dj := 86) (dp := 92) 6 rfl (fun g86 => by
      have g86' := g86
      try simp only [nH] at g86'
      refine vp rfl rfl rfl rfl ?_
      refine RunL.val (Val.lenS rfl und_9) rfl rfl rfl ?_
      refine vp rfl rfl rfl rfl ?_
      refine RunL.val (Val.lenS rfl und_9) rfl rfl rfl ?_
      refine vp rfl rfl rfl rfl ?_
      refine vp rfl rfl rfl rfl ?_
      exact RunL.segEnd (Sub.cons rfl (Sub.skip rfl (Sub.skip rfl (Sub.skip rfl (Sub.skip rfl (Sub.skip rfl (Sub.skip rfl (Sub.same rfl (by rw [g86]) (Sub.refl _))))))))) (List.Sublist.refl _)
    ) (fun g86 => by
      have g86' := g86
      try simp only [nH] at g86'
      iterate 5 refine RunL.no rfl rfl rfl ?_
      refine vp rfl rfl rfl rfl ?_
      exact RunL.segEnd (Sub.cons rfl (Sub.skip rfl (Sub.skip rfl (Sub.skip rfl (Sub.skip rfl (Sub.skip rfl (Sub.skip rfl (Sub.same rfl (by rw [g86]) (Sub.refl _))))))))) (List.Sublist.refl _)
    ) ?_
    refine vp rfl rfl rfl rfl ?_
    exact RunL.segEnd (Sub.cons rfl (Sub.skip rfl (Sub.skip rfl (Sub.skip rfl (Sub.skip rfl (Sub.skip rfl (Sub.skip rfl (Sub.skip rfl (Sub.same rfl (by rw [g77]) (Sub.refl _)))))))))) (List.Sublist.refl _)
  ) (fun g77 => by
    have g77' := g77
    try simp only [nH] at g77'
    iterate 15 refine RunL.no rfl rfl rfl ?_
    refine vp rfl rfl rfl rfl ?_
    exact RunL.segEnd (Sub.cons rfl (Sub.skip rfl (Sub.skip rfl (Sub.skip rfl (Sub.skip rfl (Sub.skip rfl (Sub.skip rfl (Sub.skip rfl (Sub.skip rfl (Sub.skip rfl (Sub.skip rfl (Sub.skip rfl (Sub.skip rfl (Sub.skip rfl (Sub.skip rfl (Sub.skip rfl (Sub.skip rfl (Sub.same rfl (by rw [g77]) (Sub.refl _))))))))))))))))))) (List.Sublist.refl _)
  ) ?_
  refine vp rfl rfl rfl rfl ?_
  refine RunL.orPart (dj := 94) (dp := 114) 20 rfl (fun g94 => by
    have g94' := g94
    try simp only [nH] at g94'
    iterate 3 refine vp rfl rfl rfl rfl ?_
    refine RunL.andPart (dj := 97) (dp := 113) 16 rfl (fun g97 => by
      have g97' := g97
      try simp only [nH] at g97'
      iterate 3 refine vp rfl rfl rfl rfl ?_
      refine RunL.orPart (dj := 100) (dp := 105) 5 rfl (fun g100 => by
        have g100' := g100
        try simp only [nH] at g100'
        refine vp rfl rfl rfl rfl ?_
        refine vp rfl rfl rfl rfl ?_
        refine RunL.callP (isCall_func rfl ent_26) rfl rfl rfl (fun w hm => hasPrefix_calls _ _ w) ?_
        refine vp rfl rfl rfl rfl ?_
        refine vp rfl rfl rfl rfl ?_
        exact RunL.segEnd (Sub.cons rfl (Sub.skip rfl (Sub.skip rfl (Sub.skip rfl (Sub.skip rfl (Sub.skip rfl (Sub.same rfl (by rw [g100]) (Sub.refl _)))))))) (List.Sublist.refl _)
      ) (fun g100 => by
        have g100' := g100
        try simp only [nH] at g100'
        iterate 4 refine RunL.no rfl rfl rfl ?_
        refine vp rfl rfl rfl rfl ?_
        exact RunL.segEnd (Sub.cons rfl (Sub.skip rfl (Sub.skip rfl (Sub.skip rfl (Sub.skip rfl (Sub.skip rfl (Sub.same rfl (by rw [g100]) (Sub.refl _)))))))) (List.Sublist.refl _)
      ) ?_
      refine vp rfl rfl rfl rfl ?_
      refine RunL.orPart (dj := 106) (dp := 112) 6 rfl (fun g106 => by
        have g106' := g106
        try simp only [nH] at g106'
        refine vp rfl rfl rfl rfl ?_
        refine RunL.val (Val.lenS rfl und_9) rfl rfl rfl ?_
        refine vp rfl rfl rfl rfl ?_
        refine RunL.val (Val.lenS rfl und_9) rfl rfl rfl ?_
        refine vp rfl rfl rfl rfl ?_
        refine vp rfl rfl rfl rfl ?_
        exact RunL.segEnd (Sub.cons rfl (Sub.skip rfl (Sub.skip rfl (Sub.skip rfl (Sub.skip rfl (Sub.skip rfl (Sub.skip rfl (Sub.same rfl (by rw [g106]) (Sub.refl _))))))))) (List.Sublist.refl _)
      ) (fun g106 => by
        have g106' := g106
        try simp only [nH] at g106'
        iterate 5 refine RunL.no rfl rfl rfl ?_
        refine vp rfl rfl rfl rfl ?_
        exact RunL.segEnd (Sub.cons rfl (Sub.skip rfl (Sub.skip rfl (Sub.skip rfl (Sub.skip rfl (Sub.skip rfl (Sub.skip rfl (Sub.same rfl (by rw [g106]) (Sub.refl _))))))))) (List.Sublist.refl _)
      ) ?_
      refine vp rfl rfl rfl rfl ?_
      exact RunL.segEnd (Sub.cons rfl (Sub.skip rfl (Sub.skip rfl (Sub.skip rfl (Sub.skip rfl (Sub.skip rfl (Sub.skip rfl (Sub.skip rfl (Sub.same rfl (by rw [g97]) (Sub.refl _)))))))))) (List.Sublist.refl _)
    ) (fun g97 => by
      have g97' := g97
      try simp only [nH] at g97'
      iterate 15 refine RunL.no rfl rfl rfl ?_
      refine vp rfl rfl rfl rfl ?_
      exact RunL.segEnd (Sub.cons rfl (Sub.skip rfl (Sub.skip rfl (Sub.skip rfl (Sub.skip rfl (Sub.skip rfl (Sub.skip rfl (Sub.skip rfl (Sub.skip rfl (Sub.skip rfl (Sub.skip rfl (Sub.skip rfl (Sub.skip rfl (Sub.skip rfl (Sub.skip rfl (Sub.skip rfl (Sub.skip rfl (Sub.same rfl (by rw [g97]) (Sub.refl _))))))))))))))))))) (List.Sublist.refl _)
    ) ?_
    refine vp rfl rfl rfl rfl ?_
    exact RunL.segEnd (Sub.cons rfl (Sub.skip rfl (Sub.skip rfl (Sub.skip rfl (Sub.skip rfl (Sub.skip rfl (Sub.same rfl (by rw [g94]) (Sub.refl _)))))))) (List.Sublist.refl _)
  ) (fun g94 => by
    have g94' := g94
    try simp only [nH] at g94'
    iterate 19 refine RunL.no rfl rfl rfl ?_
    refine vp rfl rfl rfl rfl ?_
    exact RunL.segEnd (Sub.cons rfl (Sub.skip rfl (Sub.skip rfl (Sub.skip rfl (Sub.skip rfl (Sub.skip rfl (Sub.skip rfl (Sub.skip rfl (Sub.skip rfl (Sub.skip rfl (Sub.skip rfl (Sub.skip rfl (Sub.skip rfl (Sub.skip rfl (Sub.skip rfl (Sub.skip rfl (Sub.skip rfl (Sub.skip rfl (Sub.skip rfl (Sub.skip rfl (Sub.skip rfl (Sub.same rfl (by rw [g94]) (Sub.refl _))))))))))))))))))))))) (List.Sublist.refl _)
  ) ?_
  refine nnx ?_
  refine RunC.cond rfl (fun h => absurd h (fun h => Bool.noConfusion ((grows_false _ _ _ _ _ _ _ _ hGc hGr).symm.trans h))) ?_
  intro c1
  clear c1
  refine RunC.skip ?_
  refine RunE.next ?_
  refine RunC.seq ?_
  refine csr ?_
  refine RunL.val (Val.fieldAddr rfl fld_48_0) rfl rfl rfl ?_
  refine RunL.val (Val.load_one rfl (.tail _ (.tail _ (.tail _ (.tail _ (.tail _ (.head _)))))) ty_44 rfl) rfl rfl rfl ?_
  refine RunL.val (Val.len_sl rfl sl_44) rfl rfl rfl ?_
  refine vp rfl rfl rfl rfl ?_
  refine nnx ?_
  refine RunC.cond rfl ?_ ?_
  ·intro c2
   have c2' := c2; clear c2
   try simp only [nH] at c2'
   refine csr ?_
   refine RunL.callP (isCall_func rfl ent_8) rfl rfl rfl (fun w hm => alive_calls w (hL.mono hm)) ?_
   refine vp rfl rfl rfl rfl ?_
   refine nnx ?_
   refine RunC.ret ?_
   refine RunE.pass_ret ?_
   exact RunE.retP (.r1 rfl (.tmp rfl)) (by first | rfl | simp)
  intro c2
  have c2' := c2; clear c2
  try simp only [nH] at c2'
  have hpn : 0 < p.cards.l.length := by omega
  refine RunC.skip ?_
  refine RunE.next ?_
  refine csr ?_
  refine RunL.new (New.buildSlice0 sl_44) rfl rfl rfl (fun b120 => ?_)
  refine RunL.val (Val.fieldAddr rfl fld_48_0) rfl rfl rfl ?_
  refine RunL.val (Val.load_one rfl (.tail _ (.tail _ (.tail _ (.tail _ (.tail _ (.tail _ (.head _))))))) ty_44 rfl) rfl rfl rfl ?_
  refine RunL.keep (Sub.refl _) (.cons (.there .here) rfl (.cons (.there .here) rfl (.cons (.there .here) rfl (.cons (.there .here) rfl (.cons (.there .here) rfl (.cons (.there .here) rfl (.cons .here rfl (Pick.refl _)))))))) ?_
  refine RunL.append (A := [(b15, _), (b16, _), (b17, _), (b7, _), (b8, _), (b9, _)]) (B := _) (x := (some (b120, 0, []))) (ys := (p.cards.l.map Pt.cells).flatten) ap_44 rfl rfl rfl OwnOk.empty pt_len hP.nq (fun w hm => sa_src (by decide) hP1 hm) pt_one (by simp only [maxLen]; omega) (by omega) rfl (fun z123 hz123 => ?_)
  refine RunL.val (Val.fieldAddr rfl fld_48_0) rfl rfl rfl ?_
  refine RunL.sto (Sto.storeOwn (cs := p.cells) (cs' := [ownV z123 (0 + p.cards.l.length), .int .i64 p.less.lo, .int .i64 p.less.hi, .int .i64 p.loss.lo, .int .i64 p.loss.hi]) rfl rfl (.there (.there .here)) ty_44 rfl rfl) rfl rfl ?_
  refine nnx ?_
  refine RunC.seq ?_
  rw [Nat.zero_add p.cards.l.length] at hz123 ⊢
  change OwnOk 5 z123 p.cards.l.length (p.cards.l.map Pt.cells).flatten at hz123
  obtain ⟨K, hK⟩ : ∃ K, a % p.cards.l.length = K := ⟨_, rfl⟩
  have hKl : K < p.cards.l.length := hK ▸ Nat.mod_lt _ hpn
  obtain ⟨x, hx⟩ : ∃ x, p.cards.l[K] = x := ⟨_, rfl⟩
  obtain ⟨bz123, cz123, rz123, rfl, lz1231, lz1232, lz1233⟩ := hz123.has (by omega)
  refine RunC.draw 15 fol_ (.cons .here rfl (.cons .here rfl (.cons .here rfl (.cons .here rfl (.cons .here rfl (.cons .here rfl (.cons .here rfl .nil))))))) ?_
  refine va 0 rfl (Val.fieldAddr rfl fld_48_0) rfl rfl rfl (.cons .here rfl (.cons .here rfl (.cons .here rfl (.cons .here rfl (.cons .here rfl (.cons .here rfl (.cons .here rfl .nil))))))) rfl ?_
  refine va 1 rfl (Val.load_gen rfl (fun w hm => (run_loadVar_one ty_44 (by rw [cell_of_cells (hm.at (.tail _ (.tail _ (.head _))))]; rfl) : (loadVar 44 ⟨b17, 0 + 0, none⟩).run Tryz.prog w = .ok (.slice (some ⟨bz123, 0, none⟩) p.cards.l.length cz123) w))) rfl rfl rfl (.cons .here rfl (.cons .here rfl (.cons .here rfl (.cons .here rfl (.cons .here rfl (.cons .here rfl (.cons .here rfl .nil))))))) rfl ?_
  refine va 2 rfl (Val.pure rfl) rfl rfl rfl (.cons .here rfl (.cons .here rfl (.cons .here rfl (.cons .here rfl (.cons .here rfl (.cons .here rfl (.cons .here rfl .nil))))))) rfl ?_
  refine va 3 rfl (Val.convInt rfl und_5 und_3 (i64_inN (by omega))) rfl rfl rfl (.cons .here rfl (.cons .here rfl (.cons .here rfl (.cons .here rfl (.cons .here rfl (.cons .here rfl (.cons .here rfl .nil))))))) rfl ?_
  refine va 4 rfl (Val.fieldAddr rfl fld_48_0) rfl rfl rfl (.cons .here rfl (.cons .here rfl (.cons .here rfl (.cons .here rfl (.cons .here rfl (.cons .here rfl (.cons .here rfl .nil))))))) rfl ?_
  refine va 5 rfl (Val.load_one rfl (.tail _ (.tail _ (.tail _ (.tail _ (.tail _ (.head _)))))) ty_44 rfl) rfl rfl rfl (.cons .here rfl (.cons .here rfl (.cons .here rfl (.cons .here rfl (.cons .here rfl (.cons .here rfl (.cons .here rfl .nil))))))) rfl ?_
  refine va 6 rfl (Val.len_sl rfl sl_44) rfl rfl rfl (.cons .here rfl (.cons .here rfl (.cons .here rfl (.cons .here rfl (.cons .here rfl (.cons .here rfl (.cons .here rfl .nil))))))) rfl ?_
  refine va 7 rfl (Val.remK (a := a) (b := p.cards.l.length) rfl rfl hpn hK) rfl rfl rfl (.cons .here rfl (.cons .here rfl (.cons .here rfl (.cons .here rfl (.cons .here rfl (.cons .here rfl (.cons .here rfl .nil))))))) rfl ?_
  refine va 8 rfl (Val.indexAddr_sl rfl rfl sl_44 (by omega) (by omega)) rfl rfl rfl (.cons .here rfl (.cons .here rfl (.cons .here rfl (.cons .here rfl (.cons .here rfl (.cons .here rfl (.cons .here rfl .nil))))))) rfl ?_
  refine va 9 rfl (Val.fieldAddr rfl fld_69_1) rfl rfl rfl (.cons .here rfl (.cons .here rfl (.cons .here rfl (.cons .here rfl (.cons .here rfl (.cons .here rfl (.cons .here rfl .nil))))))) rfl ?_
  refine va 10 rfl (Val.fieldAddr rfl fld_46_1) rfl rfl rfl (.cons .here rfl (.cons .here rfl (.cons .here rfl (.cons .here rfl (.cons .here rfl (.cons .here rfl (.cons .here rfl .nil))))))) rfl ?_
  refine va 11 rfl (Val.load_gen rfl (fun w hm => (Sl.rowsR (xs := p.cards.l.map Pt.cells) (t := rz123) (hm.at (.tail _ (.tail _ (.tail _ (.tail _ (.tail _ (.tail _ (.head _)))))))) (fun x hx => by obtain ⟨y, _, rfl⟩ := List.mem_map.1 hx; rfl) : Sl w _ bz123 0 5 _).cellX (Mem.refl w) (by simp) ty_3 hKl hx (j := 3) (by decide) rfl)) rfl rfl rfl (.cons .here rfl (.cons .here rfl (.cons .here rfl (.cons .here rfl (.cons .here rfl (.cons .here rfl (.cons .here rfl .nil))))))) rfl ?_
  refine va 12 rfl (Val.pure rfl) rfl rfl rfl (.cons .here rfl (.cons .here rfl (.cons .here rfl (.cons .here rfl (.cons .here rfl (.cons .here rfl (.cons .here rfl .nil))))))) rfl ?_
  refine va 13 rfl (Val.convInt rfl und_5 und_3 (i64_inN (by omega))) rfl rfl rfl (.cons .here rfl (.cons .here rfl (.cons .here rfl (.cons .here rfl (.cons .here rfl (.cons .here rfl (.cons .here rfl .nil))))))) rfl ?_
  refine va 14 rfl (Val.remN (a := b) (b := 3) rfl rfl (by decide)) rfl rfl rfl (.cons .here rfl (.cons .here rfl (.cons .here rfl (.cons .here rfl (.cons .here rfl (.cons .here rfl (.cons .here rfl .nil))))))) rfl ?_
  refine RunA.toB (by kernel_rfl) ?_
  refine RunB.one (i := 15) (by kernel_rfl) ?_
  refine RunI.val rfl (Val.add_wrap rfl rfl) rfl rfl rfl (RunK.toB ?_)
  refine RunB.one (i := 16) (by kernel_rfl) ?_
  refine RunI.val rfl (Val.indexAddr_sl rfl rfl sl_44 (by omega) (by omega)) rfl rfl rfl (RunK.toB ?_)
  refine RunB.one (i := 17) (by kernel_rfl) ?_
  refine RunI.val rfl (Val.fieldAddr rfl fld_69_1) rfl rfl rfl (RunK.toB ?_)
  refine RunB.one (i := 18) (by kernel_rfl) ?_
  refine RunI.val rfl (Val.fieldAddr rfl fld_46_1) rfl rfl rfl (RunK.toB ?_)
  refine RunB.one (i := 19) (by kernel_rfl) ?_
  refine RunI.sto rfl (Sto.store (cs := (p.cards.l.map Pt.cells).flatten ++ rz123) (cs' := ((p.cards.l.set K (wider x (IntKind.i64.wrap (x.wide.hi + ((b % 3 : Nat) : Int))))).map Pt.cells).flatten ++ rz123) rfl rfl (.there (.there (.there (.there (.there (.there .here)))))) ty_3 rfl (paste_rowE (f := Pt.cells) (sz := 5) (fun _ => rfl) (a' := wider x (IntKind.i64.wrap (x.wide.hi + ((b % 3 : Nat) : Int)))) (j := 3) hKl hx (by simp) (by rfl))) rfl rfl (RunK.toB ?_)
  refine RunB.done (by kernel_rfl) ?_
  refine RunE.next ?_
  refine RunC.seq ?_
  obtain ⟨L2, hL2⟩ : ∃ L2, p.cards.l.set K (wider x (IntKind.i64.wrap (x.wide.hi + ((b % 3 : Nat) : Int)))) = L2 := ⟨_, rfl⟩
  rw [hL2]
  have hL2l : L2.length = p.cards.l.length := (by rw [← hL2, List.length_set])
  have hY : OL.ok (some (bz123, cz123, rz123), L2) Pt.cells 5 := (by show OwnOk 5 _ L2.length _; rw [hL2l]; exact own_relen hz123 (by rw [pt_len, pt_len, hL2l]))
  refine RunC.region ?_
  refine RunL.val (Val.load_agg rfl (.tail _ (.tail _ (.tail _ (.tail _ (.tail _ (.head _)))))) ty_48 rfl) rfl rfl rfl ?_
  refine RunL.callNA [(b15, _), (b16, _), (b17, _), (b7, _), (b8, _), (b9, _), (bz123, _)] _ rfl (isCall_func rfl ent_19) rfl rfl rfl (fun w hm => (writePrints_any p hl40 w (SA.ok.mono0 hP1 (by decide) hm))) (fun z146 => ?_)
  obtain ⟨y146, hy146⟩ := z146
  dsimp only
  iterate 5 refine vp rfl rfl rfl rfl ?_
  refine nsr ?_
  refine RunL.val (Val.load_agg rfl (.tail _ (.tail _ (.head _))) ty_48 rfl) rfl rfl rfl ?_
  refine RunL.callNA [(b15, _), (b16, _), (b17, _), (b7, _), (b8, _), (b9, _), (bz123, _)] _ rfl (isCall_func rfl ent_19) rfl rfl rfl (fun w hm => (writePm_calls p (some (bz123, cz123, rz123)) L2 p.cards.l.length hL2l (by rw [hL2l]; exact hl40) hY w (fun b o h => by rw [ownB_some, List.mem_singleton] at h; cases h; exact hm.at (.tail _ (.tail _ (.tail _ (.tail _ (.tail _ (.tail _ (.head _)))))))))) (fun z151 => ?_)
  obtain ⟨y151, hy151⟩ := z151
  dsimp only
  iterate 5 refine vp rfl rfl rfl rfl ?_
  refine nnx ?_
  refine RunC.seq ?_
  refine RunC.keep (Sub.cons (t := 9) rfl (Sub.cons (t := 17) rfl (Sub.cons (t := 26) rfl (Sub.cons (t := 27) rfl (Sub.cons (t := 28) rfl (Sub.cons (t := 29) rfl (Sub.nil _))))))) (.cons .here rfl (.cons .here rfl (.cons .here rfl (.cons .here rfl (.cons .here rfl (.cons .here rfl (.cons .here rfl (Pick.refl _)))))))) ?_
  apply RunC.drawJ (J := J0 _ _ _ _ _ _) 12 fol_ (.cons .here rfl (.cons .here rfl (.cons .here rfl (.cons .here rfl (.cons .here rfl (.cons .here rfl (.cons .here rfl .nil)))))))
  ·refine va 0 rfl (Val.pure rfl) rfl rfl rfl (.cons .here rfl (.cons .here rfl (.cons .here rfl (.cons .here rfl (.cons .here rfl (.cons .here rfl (.cons .here rfl .nil))))))) rfl ?_
   refine va 1 rfl (Val.pure rfl) rfl rfl rfl (.cons .here rfl (.cons .here rfl (.cons .here rfl (.cons .here rfl (.cons .here rfl (.cons .here rfl (.cons .here rfl .nil))))))) rfl ?_
   refine va 2 rfl (Val.pure rfl) rfl rfl rfl (.cons .here rfl (.cons .here rfl (.cons .here rfl (.cons .here rfl (.cons .here rfl (.cons .here rfl (.cons .here rfl .nil))))))) rfl ?_
   refine RunA.ways (dj := 156) rfl ?_ ?_
   ·intro g156
    have g156' := g156; clear g156
    try simp only [nH] at g156'
    refine RunA.no (i := 3) rfl (by kernel_rfl) (by kernel_rfl) rfl rfl rfl (fun _ _ _ h => h) (.cons .here rfl (.cons .here rfl (.cons .here rfl (.cons .here rfl (.cons .here rfl (.cons .here rfl (.cons .here rfl .nil))))))) rfl ?_
    refine RunA.no (i := 4) rfl (by kernel_rfl) (by kernel_rfl) rfl rfl rfl (fun _ _ _ h => h) (.cons .here rfl (.cons .here rfl (.cons .here rfl (.cons .here rfl (.cons .here rfl (.cons .here rfl (.cons .here rfl .nil))))))) rfl ?_
    refine va 5 rfl (Val.pure rfl) rfl rfl rfl (.cons .here rfl (.cons .here rfl (.cons .here rfl (.cons .here rfl (.cons .here rfl (.cons .here rfl (.cons .here rfl .nil))))))) rfl ?_
    refine va 6 rfl (Val.pure rfl) rfl rfl rfl (.cons .here rfl (.cons .here rfl (.cons .here rfl (.cons .here rfl (.cons .here rfl (.cons .here rfl (.cons .here rfl .nil))))))) rfl ?_
    refine RunA.ways (dj := 160) rfl ?_ ?_
    ·intro g160
     have g160' := g160; clear g160
     try simp only [nH] at g160'
     refine RunA.no (i := 7) rfl (by kernel_rfl) (by kernel_rfl) rfl rfl rfl (fun _ _ _ h => h) (.cons .here rfl (.cons .here rfl (.cons .here rfl (.cons .here rfl (.cons .here rfl (.cons .here rfl (.cons .here rfl .nil))))))) rfl ?_
     refine RunA.no (i := 8) rfl (by kernel_rfl) (by kernel_rfl) rfl rfl rfl (fun _ _ _ h => h) (.cons .here rfl (.cons .here rfl (.cons .here rfl (.cons .here rfl (.cons .here rfl (.cons .here rfl (.cons .here rfl .nil))))))) rfl ?_
     refine RunA.no (i := 10) rfl (by kernel_rfl) (by kernel_rfl) rfl rfl rfl (fun _ _ _ h => h) (.cons .here rfl (.cons .here rfl (.cons .here rfl (.cons .here rfl (.cons .here rfl (.cons .here rfl (.cons .here rfl .nil))))))) rfl ?_
     refine RunA.no (i := 11) rfl (by kernel_rfl) (by kernel_rfl) rfl rfl rfl (fun _ _ _ h => h) (.cons .here rfl (.cons .here rfl (.cons .here rfl (.cons .here rfl (.cons .here rfl (.cons .here rfl (.cons .here rfl .nil))))))) rfl ?_
     refine RunA.one (i := 9) (by kernel_rfl) (by kernel_rfl) ?_
     refine RunI.no rfl rfl rfl rfl (RunK.toA (.cons .here rfl (.cons .here rfl (.cons .here rfl (.cons .here rfl (.cons .here rfl (.cons .here rfl (.cons .here rfl .nil))))))) (.cons .here rfl (.cons .here rfl (.cons .here rfl (.cons .here rfl (.cons .here rfl (.cons .here rfl (.cons .here rfl .nil))))))) rfl ?_)
     refine RunA.toB (by kernel_rfl) ?_
     refine RunB.one (i := 12) (by kernel_rfl) ?_
     refine RunI.no rfl rfl rfl rfl (RunK.toB ?_)
     refine RunB.one (i := 13) (by kernel_rfl) ?_
     refine RunI.no rfl rfl rfl rfl (RunK.toB ?_)
     refine RunB.one (i := 14) (by kernel_rfl) ?_
     refine RunI.val rfl (Val.pure rfl) rfl rfl rfl (RunK.toB ?_)
     refine RunB.one (i := 15) (by kernel_rfl) ?_
     refine RunI.val rfl (Val.pure rfl) rfl rfl rfl (RunK.toB ?_)
     refine RunB.ways (dj := 169) rfl ?_ ?_
     ·intro g169
      have g169' := g169; clear g169
      try simp only [nH] at g169'
      refine RunB.one (i := 16) (by kernel_rfl) ?_
      refine RunI.callP rfl (isCall_func rfl ent_8) rfl rfl rfl (fun w hm => alive_calls w (hL.mono hm)) (RunK.toB ?_)
      refine RunB.one (i := 17) (by kernel_rfl) ?_
      refine RunI.val rfl (Val.pure rfl) rfl rfl rfl (RunK.toB ?_)
      refine RunB.one (i := 18) (by kernel_rfl) ?_
      refine RunI.val rfl (Val.pure rfl) rfl rfl rfl (RunK.toB ?_)
      refine RunB.done (by kernel_rfl) ?_
      exact RunE.join0  (Sub.consE (t := 14) (v := .bool true) rfl (by first | rfl | exact absurd (by assumption : (true = false)) (by decide) | exact Bool.noConfusion ((same_end g156' g160').symm.trans g169')) (Sub.skip rfl (Sub.skip rfl (Sub.skip rfl (Sub.skip rfl (Sub.skip rfl (Sub.skip rfl (Sub.skip rfl (Sub.skip rfl (Sub.skip rfl (Sub.skip rfl (Sub.skip rfl (Sub.skip rfl (Sub.skip rfl (Sub.skip rfl (Sub.skip rfl (Sub.skip rfl (Sub.skip rfl (Sub.skip rfl (Sub.skip rfl (Sub.skip rfl (Sub.skip rfl (Sub.skip rfl (Sub.refl _)))))))))))))))))))))))) (Pick.refl _)
     intro g169
     have g169' := g169; clear g169
     try simp only [nH] at g169'
     refine RunB.one (i := 16) (by kernel_rfl) ?_
     refine RunI.no rfl rfl rfl rfl (RunK.toB ?_)
     refine RunB.one (i := 17) (by kernel_rfl) ?_
     refine RunI.val rfl (Val.pure rfl) rfl rfl rfl (RunK.toB ?_)
     refine RunB.one (i := 18) (by kernel_rfl) ?_
     refine RunI.val rfl (Val.pure rfl) rfl rfl rfl (RunK.toB ?_)
     refine RunB.done (by kernel_rfl) ?_
     exact RunE.join0  (Sub.consE (t := 14) (v := .bool true) rfl (by first | rfl | exact absurd (by assumption : (true = false)) (by decide) | exact Bool.noConfusion ((same_end g156' g160').symm.trans g169')) (Sub.skip rfl (Sub.skip rfl (Sub.skip rfl (Sub.skip rfl (Sub.skip rfl (Sub.skip rfl (Sub.skip rfl (Sub.skip rfl (Sub.skip rfl (Sub.skip rfl (Sub.skip rfl (Sub.skip rfl (Sub.skip rfl (Sub.skip rfl (Sub.skip rfl (Sub.skip rfl (Sub.skip rfl (Sub.skip rfl (Sub.skip rfl (Sub.skip rfl (Sub.skip rfl (Sub.skip rfl (Sub.refl _)))))))))))))))))))))))) (.cons .here rfl (.cons .here rfl (.cons .here rfl (.cons .here rfl (.cons .here rfl (.cons .here rfl (.cons .here rfl (Pick.refl _))))))))
    intro g160
    have g160' := g160; clear g160
    try simp only [nH] at g160'
    refine va 7 rfl (Val.pure rfl) rfl rfl rfl (.cons .here rfl (.cons .here rfl (.cons .here rfl (.cons .here rfl (.cons .here rfl (.cons .here rfl (.cons .here rfl .nil))))))) rfl ?_
    refine va 8 rfl (Val.pure rfl) rfl rfl rfl (.cons .here rfl (.cons .here rfl (.cons .here rfl (.cons .here rfl (.cons .here rfl (.cons .here rfl (.cons .here rfl .nil))))))) rfl ?_
    refine va 10 rfl (Val.load_agg rfl (.tail _ (.tail _ (.tail _ (.tail _ (.tail _ (.head _)))))) ty_48 rfl) rfl rfl rfl (.cons .here rfl (.cons .here rfl (.cons .here rfl (.cons .here rfl (.cons .here rfl (.cons .here rfl (.cons .here rfl .nil))))))) rfl ?_
    refine va 11 rfl (Val.load_agg rfl (.tail _ (.tail _ (.head _))) ty_48 rfl) rfl rfl rfl (.cons .here rfl (.cons .here rfl (.cons .here rfl (.cons .here rfl (.cons .here rfl (.cons .here rfl (.cons .here rfl .nil))))))) rfl ?_
    refine RunA.one (i := 9) (by kernel_rfl) (by kernel_rfl) ?_
    refine RunI.callP rfl (isCall_func rfl ent_20) rfl rfl rfl (fun w hm => (by rw [ownV_slice hy146, ownV_slice hy151]; exact rsameBytes_calls ⟨wpS p.pl, ownQ y146, ownK y146, 0, ownC y146⟩ ⟨wpS (mkP p (some (bz123, cz123, rz123)) L2).pl, ownQ y151, ownK y151, 0, ownC y151⟩ w (own_bytes hy146 (fun b o h => hm.at (.tail _ (.tail _ (.tail _ (.tail _ (.tail _ (.tail _ (.tail _ ((by first | exact List.mem_append_right _ (List.mem_append_left _ h) | exact List.mem_append_right _ (List.mem_append_right _ (List.mem_append_left _ h))))))))))))) (own_bytes hy151 (fun b o h => hm.at (.tail _ (.tail _ (.tail _ (.tail _ (.tail _ (.tail _ (.tail _ ((by first | exact List.mem_append_left _ h | exact List.mem_append_right _ (List.mem_append_left _ h)))))))))))))) (RunK.toA (.cons .here rfl (.cons .here rfl (.cons .here rfl (.cons .here rfl (.cons .here rfl (.cons .here rfl (.cons .here rfl .nil))))))) (.cons .here rfl (.cons .here rfl (.cons .here rfl (.cons .here rfl (.cons .here rfl (.cons .here rfl (.cons .here rfl .nil))))))) rfl ?_)
    refine RunA.toB (by kernel_rfl) ?_
    refine RunB.one (i := 12) (by kernel_rfl) ?_
    refine RunI.callP rfl (isCall_func rfl ent_21) rfl rfl rfl (fun w hm => (sameP2_calls p w (SA.ok.mono0 hP1 (by decide) hm) hl40 (some (bz123, cz123, rz123)) L2 p.cards.l.length hL2l (by rw [hL2l]; exact hl40) hY (fun b o h => by rw [ownB_some, List.mem_singleton] at h; cases h; exact hm.at (.tail _ (.tail _ (.tail _ (.tail _ (.tail _ (.tail _ (.head _)))))))))) (RunK.toB ?_)
    refine RunB.one (i := 13) (by kernel_rfl) ?_
    refine RunI.val rfl (Val.eql_bool rfl rfl boolB_4) rfl rfl rfl (RunK.toB ?_)
    refine RunB.one (i := 14) (by kernel_rfl) ?_
    refine RunI.val rfl (Val.pure rfl) rfl rfl rfl (RunK.toB ?_)
    refine RunB.one (i := 15) (by kernel_rfl) ?_
    refine RunI.val rfl (Val.pure rfl) rfl rfl rfl (RunK.toB ?_)
    refine RunB.ways (dj := 169) rfl ?_ ?_
    ·intro g169
     have g169' := g169; clear g169
     try simp only [nH] at g169'
     refine RunB.one (i := 16) (by kernel_rfl) ?_
     refine RunI.callP rfl (isCall_func rfl ent_8) rfl rfl rfl (fun w hm => alive_calls w (hL.mono hm)) (RunK.toB ?_)
     refine RunB.one (i := 17) (by kernel_rfl) ?_
     refine RunI.val rfl (Val.pure rfl) rfl rfl rfl (RunK.toB ?_)
     refine RunB.one (i := 18) (by kernel_rfl) ?_
     refine RunI.val rfl (Val.pure rfl) rfl rfl rfl (RunK.toB ?_)
     refine RunB.done (by kernel_rfl) ?_
     exact RunE.join0  (Sub.consE (t := 14) (v := .bool true) rfl (by first | rfl | exact absurd (by assumption : (true = false)) (by decide) | exact Bool.noConfusion ((same_end g156' g160').symm.trans g169')) (Sub.skip rfl (Sub.skip rfl (Sub.skip rfl (Sub.skip rfl (Sub.skip rfl (Sub.skip rfl (Sub.skip rfl (Sub.skip rfl (Sub.skip rfl (Sub.skip rfl (Sub.skip rfl (Sub.skip rfl (Sub.skip rfl (Sub.skip rfl (Sub.skip rfl (Sub.skip rfl (Sub.skip rfl (Sub.skip rfl (Sub.skip rfl (Sub.skip rfl (Sub.skip rfl (Sub.skip rfl (Sub.refl _)))))))))))))))))))))))) (.cons .here rfl (.cons .here rfl (.cons .here rfl (.cons .here rfl (.cons .here rfl (.cons .here rfl (.cons .here rfl (Pick.refl _))))))))
    intro g169
    have g169' := g169; clear g169
    try simp only [nH] at g169'
    refine RunB.one (i := 16) (by kernel_rfl) ?_
    refine RunI.no rfl rfl rfl rfl (RunK.toB ?_)
    refine RunB.one (i := 17) (by kernel_rfl) ?_
    refine RunI.val rfl (Val.pure rfl) rfl rfl rfl (RunK.toB ?_)
    refine RunB.one (i := 18) (by kernel_rfl) ?_
    refine RunI.val rfl (Val.pure rfl) rfl rfl rfl (RunK.toB ?_)
    refine RunB.done (by kernel_rfl) ?_
    exact RunE.join0  (Sub.consE (t := 14) (v := .bool true) rfl (by first | rfl | exact absurd (by assumption : (true = false)) (by decide) | exact Bool.noConfusion ((same_end g156' g160').symm.trans g169')) (Sub.skip rfl (Sub.skip rfl (Sub.skip rfl (Sub.skip rfl (Sub.skip rfl (Sub.skip rfl (Sub.skip rfl (Sub.skip rfl (Sub.skip rfl (Sub.skip rfl (Sub.skip rfl (Sub.skip rfl (Sub.skip rfl (Sub.skip rfl (Sub.skip rfl (Sub.skip rfl (Sub.skip rfl (Sub.skip rfl (Sub.skip rfl (Sub.skip rfl (Sub.skip rfl (Sub.skip rfl (Sub.refl _)))))))))))))))))))))))) (.cons .here rfl (.cons .here rfl (.cons .here rfl (.cons .here rfl (.cons .here rfl (.cons .here rfl (.cons .here rfl (Pick.refl _))))))))
   intro g156
   have g156' := g156; clear g156
   try simp only [nH] at g156'
   refine va 3 rfl (Val.pure rfl) rfl rfl rfl (.cons .here rfl (.cons .here rfl (.cons .here rfl (.cons .here rfl (.cons .here rfl (.cons .here rfl (.cons .here rfl .nil))))))) rfl ?_
   refine va 4 rfl (Val.pure rfl) rfl rfl rfl (.cons .here rfl (.cons .here rfl (.cons .here rfl (.cons .here rfl (.cons .here rfl (.cons .here rfl (.cons .here rfl .nil))))))) rfl ?_
   refine va 5 rfl (Val.pure rfl) rfl rfl rfl (.cons .here rfl (.cons .here rfl (.cons .here rfl (.cons .here rfl (.cons .here rfl (.cons .here rfl (.cons .here rfl .nil))))))) rfl ?_
   refine va 6 rfl (Val.pure rfl) rfl rfl rfl (.cons .here rfl (.cons .here rfl (.cons .here rfl (.cons .here rfl (.cons .here rfl (.cons .here rfl (.cons .here rfl .nil))))))) rfl ?_
   refine RunA.ways (dj := 160) rfl ?_ ?_
   ·intro g160
    have g160' := g160; clear g160
    try simp only [nH] at g160'
    refine RunA.no (i := 7) rfl (by kernel_rfl) (by kernel_rfl) rfl rfl rfl (fun _ _ _ h => h) (.cons .here rfl (.cons .here rfl (.cons .here rfl (.cons .here rfl (.cons .here rfl (.cons .here rfl (.cons .here rfl .nil))))))) rfl ?_
    refine RunA.no (i := 8) rfl (by kernel_rfl) (by kernel_rfl) rfl rfl rfl (fun _ _ _ h => h) (.cons .here rfl (.cons .here rfl (.cons .here rfl (.cons .here rfl (.cons .here rfl (.cons .here rfl (.cons .here rfl .nil))))))) rfl ?_
    refine RunA.no (i := 10) rfl (by kernel_rfl) (by kernel_rfl) rfl rfl rfl (fun _ _ _ h => h) (.cons .here rfl (.cons .here rfl (.cons .here rfl (.cons .here rfl (.cons .here rfl (.cons .here rfl (.cons .here rfl .nil))))))) rfl ?_
    refine RunA.no (i := 11) rfl (by kernel_rfl) (by kernel_rfl) rfl rfl rfl (fun _ _ _ h => h) (.cons .here rfl (.cons .here rfl (.cons .here rfl (.cons .here rfl (.cons .here rfl (.cons .here rfl (.cons .here rfl .nil))))))) rfl ?_
    refine RunA.one (i := 9) (by kernel_rfl) (by kernel_rfl) ?_
    refine RunI.no rfl rfl rfl rfl (RunK.toA (.cons .here rfl (.cons .here rfl (.cons .here rfl (.cons .here rfl (.cons .here rfl (.cons .here rfl (.cons .here rfl .nil))))))) (.cons .here rfl (.cons .here rfl (.cons .here rfl (.cons .here rfl (.cons .here rfl (.cons .here rfl (.cons .here rfl .nil))))))) rfl ?_)
    refine RunA.toB (by kernel_rfl) ?_
    refine RunB.one (i := 12) (by kernel_rfl) ?_
    refine RunI.no rfl rfl rfl rfl (RunK.toB ?_)
    refine RunB.one (i := 13) (by kernel_rfl) ?_
    refine RunI.no rfl rfl rfl rfl (RunK.toB ?_)
    refine RunB.one (i := 14) (by kernel_rfl) ?_
    refine RunI.val rfl (Val.pure rfl) rfl rfl rfl (RunK.toB ?_)
    refine RunB.one (i := 15) (by kernel_rfl) ?_
    refine RunI.val rfl (Val.pure rfl) rfl rfl rfl (RunK.toB ?_)
    refine RunB.ways (dj := 169) rfl ?_ ?_
    ·intro g169
     have g169' := g169; clear g169
     try simp only [nH] at g169'
     refine RunB.one (i := 16) (by kernel_rfl) ?_
     refine RunI.callP rfl (isCall_func rfl ent_8) rfl rfl rfl (fun w hm => alive_calls w (hL.mono hm)) (RunK.toB ?_)
     refine RunB.one (i := 17) (by kernel_rfl) ?_
     refine RunI.val rfl (Val.pure rfl) rfl rfl rfl (RunK.toB ?_)
     refine RunB.one (i := 18) (by kernel_rfl) ?_
     refine RunI.val rfl (Val.pure rfl) rfl rfl rfl (RunK.toB ?_)
     refine RunB.done (by kernel_rfl) ?_
     exact RunE.join0  (Sub.consE (t := 14) (v := .bool true) rfl (by first | rfl | exact absurd (by assumption : (true = false)) (by decide) | exact Bool.noConfusion ((same_end g156' g160').symm.trans g169')) (Sub.skip rfl (Sub.skip rfl (Sub.skip rfl (Sub.skip rfl (Sub.skip rfl (Sub.skip rfl (Sub.skip rfl (Sub.skip rfl (Sub.skip rfl (Sub.skip rfl (Sub.skip rfl (Sub.skip rfl (Sub.skip rfl (Sub.skip rfl (Sub.skip rfl (Sub.skip rfl (Sub.skip rfl (Sub.skip rfl (Sub.skip rfl (Sub.skip rfl (Sub.skip rfl (Sub.skip rfl (Sub.refl _)))))))))))))))))))))))) (.cons .here rfl (.cons .here rfl (.cons .here rfl (.cons .here rfl (.cons .here rfl (.cons .here rfl (.cons .here rfl (Pick.refl _))))))))
    intro g169
    have g169' := g169; clear g169
    try simp only [nH] at g169'
    refine RunB.one (i := 16) (by kernel_rfl) ?_
    refine RunI.no rfl rfl rfl rfl (RunK.toB ?_)
    refine RunB.one (i := 17) (by kernel_rfl) ?_
    refine RunI.val rfl (Val.pure rfl) rfl rfl rfl (RunK.toB ?_)
    refine RunB.one (i := 18) (by kernel_rfl) ?_
    refine RunI.val rfl (Val.pure rfl) rfl rfl rfl (RunK.toB ?_)
    refine RunB.done (by kernel_rfl) ?_
    exact RunE.join0  (Sub.consE (t := 14) (v := .bool true) rfl (by first | rfl | exact absurd (by assumption : (true = false)) (by decide) | exact Bool.noConfusion ((same_end g156' g160').symm.trans g169')) (Sub.skip rfl (Sub.skip rfl (Sub.skip rfl (Sub.skip rfl (Sub.skip rfl (Sub.skip rfl (Sub.skip rfl (Sub.skip rfl (Sub.skip rfl (Sub.skip rfl (Sub.skip rfl (Sub.skip rfl (Sub.skip rfl (Sub.skip rfl (Sub.skip rfl (Sub.skip rfl (Sub.skip rfl (Sub.skip rfl (Sub.skip rfl (Sub.skip rfl (Sub.skip rfl (Sub.skip rfl (Sub.refl _)))))))))))))))))))))))) (.cons .here rfl (.cons .here rfl (.cons .here rfl (.cons .here rfl (.cons .here rfl (.cons .here rfl (.cons .here rfl (Pick.refl _))))))))
   intro g160
   have g160' := g160; clear g160
   try simp only [nH] at g160'
   refine va 7 rfl (Val.pure rfl) rfl rfl rfl (.cons .here rfl (.cons .here rfl (.cons .here rfl (.cons .here rfl (.cons .here rfl (.cons .here rfl (.cons .here rfl .nil))))))) rfl ?_
   refine va 8 rfl (Val.pure rfl) rfl rfl rfl (.cons .here rfl (.cons .here rfl (.cons .here rfl (.cons .here rfl (.cons .here rfl (.cons .here rfl (.cons .here rfl .nil))))))) rfl ?_
   refine va 10 rfl (Val.load_agg rfl (.tail _ (.tail _ (.tail _ (.tail _ (.tail _ (.head _)))))) ty_48 rfl) rfl rfl rfl (.cons .here rfl (.cons .here rfl (.cons .here rfl (.cons .here rfl (.cons .here rfl (.cons .here rfl (.cons .here rfl .nil))))))) rfl ?_
   refine va 11 rfl (Val.load_agg rfl (.tail _ (.tail _ (.head _))) ty_48 rfl) rfl rfl rfl (.cons .here rfl (.cons .here rfl (.cons .here rfl (.cons .here rfl (.cons .here rfl (.cons .here rfl (.cons .here rfl .nil))))))) rfl ?_
   refine RunA.one (i := 9) (by kernel_rfl) (by kernel_rfl) ?_
   refine RunI.callP rfl (isCall_func rfl ent_20) rfl rfl rfl (fun w hm => (by rw [ownV_slice hy146, ownV_slice hy151]; exact rsameBytes_calls ⟨wpS p.pl, ownQ y146, ownK y146, 0, ownC y146⟩ ⟨wpS (mkP p (some (bz123, cz123, rz123)) L2).pl, ownQ y151, ownK y151, 0, ownC y151⟩ w (own_bytes hy146 (fun b o h => hm.at (.tail _ (.tail _ (.tail _ (.tail _ (.tail _ (.tail _ (.tail _ ((by first | exact List.mem_append_right _ (List.mem_append_left _ h) | exact List.mem_append_right _ (List.mem_append_right _ (List.mem_append_left _ h))))))))))))) (own_bytes hy151 (fun b o h => hm.at (.tail _ (.tail _ (.tail _ (.tail _ (.tail _ (.tail _ (.tail _ ((by first | exact List.mem_append_left _ h | exact List.mem_append_right _ (List.mem_append_left _ h)))))))))))))) (RunK.toA (.cons .here rfl (.cons .here rfl (.cons .here rfl (.cons .here rfl (.cons .here rfl (.cons .here rfl (.cons .here rfl .nil))))))) (.cons .here rfl (.cons .here rfl (.cons .here rfl (.cons .here rfl (.cons .here rfl (.cons .here rfl (.cons .here rfl .nil))))))) rfl ?_)
   refine RunA.toB (by kernel_rfl) ?_
   refine RunB.one (i := 12) (by kernel_rfl) ?_
   refine RunI.callP rfl (isCall_func rfl ent_21) rfl rfl rfl (fun w hm => (sameP2_calls p w (SA.ok.mono0 hP1 (by decide) hm) hl40 (some (bz123, cz123, rz123)) L2 p.cards.l.length hL2l (by rw [hL2l]; exact hl40) hY (fun b o h => by rw [ownB_some, List.mem_singleton] at h; cases h; exact hm.at (.tail _ (.tail _ (.tail _ (.tail _ (.tail _ (.tail _ (.head _)))))))))) (RunK.toB ?_)
   refine RunB.one (i := 13) (by kernel_rfl) ?_
   refine RunI.val rfl (Val.eql_bool rfl rfl boolB_4) rfl rfl rfl (RunK.toB ?_)
   refine RunB.one (i := 14) (by kernel_rfl) ?_
   refine RunI.val rfl (Val.pure rfl) rfl rfl rfl (RunK.toB ?_)
   refine RunB.one (i := 15) (by kernel_rfl) ?_
   refine RunI.val rfl (Val.pure rfl) rfl rfl rfl (RunK.toB ?_)
   refine RunB.ways (dj := 169) rfl ?_ ?_
   ·intro g169
    have g169' := g169; clear g169
    try simp only [nH] at g169'
    refine RunB.one (i := 16) (by kernel_rfl) ?_
    refine RunI.callP rfl (isCall_func rfl ent_8) rfl rfl rfl (fun w hm => alive_calls w (hL.mono hm)) (RunK.toB ?_)
    refine RunB.one (i := 17) (by kernel_rfl) ?_
    refine RunI.val rfl (Val.pure rfl) rfl rfl rfl (RunK.toB ?_)
    refine RunB.one (i := 18) (by kernel_rfl) ?_
    refine RunI.val rfl (Val.pure rfl) rfl rfl rfl (RunK.toB ?_)
    refine RunB.done (by kernel_rfl) ?_
    exact RunE.join0  (Sub.consE (t := 14) (v := .bool true) rfl (by first | rfl | exact absurd (by assumption : (true = false)) (by decide) | exact Bool.noConfusion ((same_end g156' g160').symm.trans g169')) (Sub.skip rfl (Sub.skip rfl (Sub.skip rfl (Sub.skip rfl (Sub.skip rfl (Sub.skip rfl (Sub.skip rfl (Sub.skip rfl (Sub.skip rfl (Sub.skip rfl (Sub.skip rfl (Sub.skip rfl (Sub.skip rfl (Sub.skip rfl (Sub.skip rfl (Sub.skip rfl (Sub.skip rfl (Sub.skip rfl (Sub.skip rfl (Sub.skip rfl (Sub.skip rfl (Sub.skip rfl (Sub.refl _)))))))))))))))))))))))) (.cons .here rfl (.cons .here rfl (.cons .here rfl (.cons .here rfl (.cons .here rfl (.cons .here rfl (.cons .here rfl (Pick.refl _))))))))
   intro g169
   have g169' := g169; clear g169
   try simp only [nH] at g169'
   refine RunB.one (i := 16) (by kernel_rfl) ?_
   refine RunI.no rfl rfl rfl rfl (RunK.toB ?_)
   refine RunB.one (i := 17) (by kernel_rfl) ?_
   refine RunI.val rfl (Val.pure rfl) rfl rfl rfl (RunK.toB ?_)
   refine RunB.one (i := 18) (by kernel_rfl) ?_
   refine RunI.val rfl (Val.pure rfl) rfl rfl rfl (RunK.toB ?_)
   refine RunB.done (by kernel_rfl) ?_
   exact RunE.join0  (Sub.consE (t := 14) (v := .bool true) rfl (by first | rfl | exact absurd (by assumption : (true = false)) (by decide) | exact Bool.noConfusion ((same_end g156' g160').symm.trans g169')) (Sub.skip rfl (Sub.skip rfl (Sub.skip rfl (Sub.skip rfl (Sub.skip rfl (Sub.skip rfl (Sub.skip rfl (Sub.skip rfl (Sub.skip rfl (Sub.skip rfl (Sub.skip rfl (Sub.skip rfl (Sub.skip rfl (Sub.skip rfl (Sub.skip rfl (Sub.skip rfl (Sub.skip rfl (Sub.skip rfl (Sub.skip rfl (Sub.skip rfl (Sub.skip rfl (Sub.skip rfl (Sub.refl _)))))))))))))))))))))))) (.cons .here rfl (.cons .here rfl (.cons .here rfl (.cons .here rfl (.cons .here rfl (.cons .here rfl (.cons .here rfl (Pick.refl _))))))))
  refine J0.out ?_
  refine RunE.next ?_
  refine RunC.ret ?_
  exact RunE.retP (.r1 rfl (.tmp rfl)) (by first | rfl | simp)
theorem bookGrows_walk (W : World) (vs : List Value) (hL : Lw Tryz.prog W) (h : RdAll W [cbSh, rySh, psSh, lnSh, lnSh, .int .u8, .int .u8] vs) : Calls Tryz.prog 6 vs.toArray W (Pure (.bool true) W) := by
  cases h with
  | cons h1 h =>
  cases h with
  | cons h2 h =>
  cases h with
  | cons h3 h =>
  cases h with
  | cons h4 h =>
  cases h with
  | cons h5 h =>
  cases h with
  | cons h6 h =>
  cases h with
  | cons h7 h =>
  cases h
  obtain ⟨c, rfl, hc, hcq⟩ := rd_cbn h1
  obtain ⟨r, rfl, hr, hn2, hrq⟩ := rd_ryn h2
  obtain ⟨p, rfl, hp⟩ := rd_ps h3
  obtain ⟨l, rfl, _⟩ := rd_ln h4
  obtain ⟨q, rfl, _⟩ := rd_rp h5
  obtain ⟨a, rfl, ha⟩ := rd_u8n h6
  obtain ⟨b, rfl, hb⟩ := rd_u8n h7
  exact grows_law c r p l q a b ha hb W hL hc hr hp (Nat.le_trans hn2 (by decide)) hcq hrq
end Go.Proofs.YtleamcmljcdapabGreatDoor
