/- Walks of the laws of layer 1: what the arguments read as; PairReads, PairFinds. -/
import Derived.Test.YthppnhjggdebbaaLa
import Derived.Test.YthppnhjggdebbaaJoin
set_option linter.unusedSimpArgs false
set_option linter.unusedVariables false
namespace Go.Proofs.Ythppnhjggdebbaa
open Go Go.Eng Go.Pw1

abbrev spSh : Sh := .st [.int .i64, .int .i64]
abbrev plSh : Sh := .st [spSh, spSh]
abbrev thSh : Sh := .st [plSh, plSh, .int .i64]
abbrev prSh : Sh := .st [spSh, spSh, .int .i64, .int .i64, .int .i64, .sl thSh]
theorem rd_sp {w : World} {cs : List Value} (h : Rd w spSh cs) : ∃ s : Sp, cs = [.int .i64 s.lo, .int .i64 s.hi] := by
  cases h with
  | recS h1 h2 =>
    cases h1
    cases h2 with
    | recS h3 h4 =>
      cases h3
      cases h4
      exact ⟨⟨_, _⟩, rfl⟩
theorem rd_pl {w : World} {cs : List Value} (h : Rd w plSh cs) : ∃ s t : Sp, cs = [.int .i64 s.lo, .int .i64 s.hi, .int .i64 t.lo, .int .i64 t.hi] := by
  cases h with
  | recS h1 h2 =>
    obtain ⟨s, rfl⟩ := rd_sp h1
    cases h2 with
    | recS h3 h4 =>
      obtain ⟨t, rfl⟩ := rd_sp h3
      cases h4
      exact ⟨s, t, rfl⟩
theorem rd_th {w : World} {cs : List Value} (h : Rd w thSh cs) : ∃ t : Th, cs = t.cells := by
  cases h with
  | recS h1 h2 =>
    obtain ⟨a, b, rfl⟩ := rd_pl h1
    cases h2 with
    | recS h3 h4 =>
      obtain ⟨c, d, rfl⟩ := rd_pl h3
      cases h4 with
      | recS h5 h6 =>
        cases h5
        cases h6
        exact ⟨⟨a, b, c, d, _⟩, rfl⟩
theorem rows_of {α : Type} {f : α → List Value} : ∀ {xs : List (List Value)}, (∀ x ∈ xs, ∃ a, x = f a) → ∃ l : List α, xs = l.map f
  | [], _ => ⟨[], rfl⟩
  | x :: xs, h => by
    obtain ⟨a, rfl⟩ := h x (by simp)
    obtain ⟨l, rfl⟩ := rows_of (xs := xs) (fun y hy => h y (List.mem_cons_of_mem _ hy))
    exact ⟨a :: l, rfl⟩
/-- A pair that came in. -/
structure In (w : World) (p : Pr) (q : Option Addr) (b o cap : Nat) : Prop where
  s : Sl w q b o 9 (p.things.map Th.cells)
theorem rd_pr {w : World} {cs : List Value} (h : Rd w prSh cs) : ∃ (p : Pr) (q : Option Addr) (b o cap : Nat), cs = p.cells q cap ∧ In w p q b o cap := by
  cases h with
  | recS h1 h2 =>
  obtain ⟨f, rfl⟩ := rd_sp h1
  cases h2 with
  | recS h1 h2 =>
  obtain ⟨g, rfl⟩ := rd_sp h1
  cases h2 with
  | recS h1 h2 =>
  cases h1
  cases h2 with
  | recS h1 h2 =>
  cases h1
  cases h2 with
  | recS h1 h2 =>
  cases h1
  cases h2 with
  | recS h1 h2 =>
  cases h2
  cases h1 with
  | slNil => exact ⟨⟨f, g, _, _, _, []⟩, none, 0, 0, 0, rfl, ⟨Sl.emp⟩⟩
  | sl hs hl hc hx =>
    obtain ⟨ts, rfl⟩ := rows_of (f := Th.cells) (fun x hx' => rd_th (hx x hx'))
    exact ⟨⟨f, g, _, _, _, ts⟩, some _, _, _, _, by rw [List.length_map]; rfl, ⟨hs⟩⟩

theorem reads_calls (p : Pr) (a b2 far : Int) (q : Option Addr) (b o cap : Nat) (W : World) (hS : Sl W q b o 9 (p.things.map Th.cells)) :
    Calls Try.prog 3 #[p.v q cap, .int .i64 a, .int .i64 b2, .int .i64 far] W (Pure (.bool true) W) := by
  refine calls_start Try.func3 rfl rfl ?_
  refine RunC.seq ?_
  refine RunC.region ?_
  refine RunL.new (New.box rfl) rfl rfl rfl (fun b4 => ?_)
  refine RunL.val (Val.pure rfl) rfl rfl rfl ?_
  refine RunL.nil ?_
  refine RunE.next ?_
  refine RunC.seq ?_
  refine RunC.seq ?_
  refine RunC.region ?_
  refine RunL.val (Val.fieldAddr rfl fld_26_5) rfl rfl rfl ?_
  refine RunL.val (Val.load_one rfl (.head _) ty_24 rfl) rfl rfl rfl ?_
  refine RunL.val (Val.len_sl rfl sl_24) rfl rfl rfl ?_
  refine RunL.val (Val.pure rfl) rfl rfl rfl ?_
  refine RunL.nil ?_
  refine RunE.next ?_
  refine RunC.cond rfl ?_ ?_
  · intro c0
    have c0' := c0; clear c0
    try simp only [decide_eq_true_eq, decide_eq_false_iff_not, Bool.not_eq_true', Bool.not_eq_false', Bool.and_eq_true, Bool.or_eq_true, Bool.and_eq_false_iff, Bool.or_eq_false_iff, Int.not_le, Int.not_lt] at c0'
    refine RunC.seq ?_
    refine RunC.region ?_
    refine RunL.callP (isCall_func rfl ent_12) rfl rfl rfl (fun w hm => awake_calls w) ?_
    refine RunL.val (Val.pure rfl) rfl rfl rfl ?_
    refine RunL.nil ?_
    refine RunE.next ?_
    refine RunC.ret ?_
    refine RunE.pass_ret ?_
    exact RunE.retP (.r1 rfl (.tmp rfl)) (by first | rfl | simp)
  · intro c0
    have c0' := c0; clear c0
    try simp only [decide_eq_true_eq, decide_eq_false_iff_not, Bool.not_eq_true', Bool.not_eq_false', Bool.and_eq_true, Bool.or_eq_true, Bool.and_eq_false_iff, Bool.or_eq_false_iff, Int.not_le, Int.not_lt] at c0'
    have hl : p.things.length ≤ 100000000000 := by omega
    refine RunC.skip ?_
    refine RunE.next ?_
    refine RunC.seq ?_
    refine RunC.region ?_
    refine RunL.val (Val.load_agg rfl (.head _) ty_26 rfl) rfl rfl rfl ?_
    refine RunL.val (Val.pure rfl) rfl rfl rfl ?_
    refine RunL.callP (isCall_func rfl ent_13) rfl rfl rfl (fun w hm => shift_same p a ▸ Shift_calls p a q b o cap w (hS.mono (by decide) hm (by simp)) hl) ?_
    iterate 3 refine RunL.val (Val.pure rfl) rfl rfl rfl ?_
    refine RunL.new (New.alloc zero_23) rfl rfl rfl (fun b9 => ?_)
    refine RunL.sto (Sto.store rfl rfl .here ty_23 rfl rfl) rfl rfl ?_
    refine RunL.val (Val.pure rfl) rfl rfl rfl ?_
    refine RunL.nil ?_
    refine RunE.next ?_
    refine RunC.seq ?_
    refine RunC.region ?_
    refine RunL.val (Val.load_agg rfl (.tail _ (.head _)) ty_26 rfl) rfl rfl rfl ?_
    refine RunL.val (Val.pure rfl) rfl rfl rfl ?_
    refine RunL.callP (isCall_func rfl ent_14) rfl rfl rfl (fun w hm => rShift_calls p a q b o cap w (hS.mono (by decide) hm (by simp)) hl) ?_
    iterate 3 refine RunL.val (Val.pure rfl) rfl rfl rfl ?_
    refine RunL.new (New.alloc zero_23) rfl rfl rfl (fun b11 => ?_)
    refine RunL.sto (Sto.store rfl rfl .here ty_23 rfl rfl) rfl rfl ?_
    refine RunL.val (Val.pure rfl) rfl rfl rfl ?_
    refine RunL.nil ?_
    refine RunE.next ?_
    refine RunC.seq ?_
    refine RunC.region ?_
    refine RunL.val (Val.load_agg rfl (.tail _ (.tail _ (.head _))) ty_26 rfl) rfl rfl rfl ?_
    refine RunL.val (Val.pure rfl) rfl rfl rfl ?_
    refine RunL.val (Val.pure rfl) rfl rfl rfl ?_
    refine RunL.callP (isCall_func rfl ent_15) rfl rfl rfl (fun w hm => nearer_same p a b2 ▸ Nearer_calls p a b2 q b o cap w (hS.mono (by decide) hm (by simp)) hl) ?_
    iterate 5 refine RunL.val (Val.pure rfl) rfl rfl rfl ?_
    refine RunL.nil ?_
    refine RunE.next ?_
    refine RunC.seq ?_
    refine RunC.region ?_
    refine RunL.val (Val.load_agg rfl (.tail _ (.tail _ (.head _))) ty_26 rfl) rfl rfl rfl ?_
    refine RunL.val (Val.pure rfl) rfl rfl rfl ?_
    refine RunL.val (Val.pure rfl) rfl rfl rfl ?_
    refine RunL.callP (isCall_func rfl ent_16) rfl rfl rfl (fun w hm => rNearer_calls p a b2 q b o cap w (hS.mono (by decide) hm (by simp)) hl) ?_
    iterate 5 refine RunL.val (Val.pure rfl) rfl rfl rfl ?_
    refine RunL.nil ?_
    refine RunE.next ?_
    refine RunC.seq ?_
    refine RunC.region ?_
    refine RunL.val (Val.load_agg rfl (.tail _ (.tail _ (.head _))) ty_26 rfl) rfl rfl rfl ?_
    refine RunL.callP (isCall_func rfl ent_17) rfl rfl rfl (fun w hm => power_same p ▸ Power_calls p q b o cap w (hS.mono (by decide) hm (by simp)) hl) ?_
    iterate 3 refine RunL.val (Val.pure rfl) rfl rfl rfl ?_
    refine RunL.new (New.alloc zero_23) rfl rfl rfl (fun b17 => ?_)
    refine RunL.sto (Sto.store rfl rfl .here ty_23 rfl rfl) rfl rfl ?_
    refine RunL.val (Val.pure rfl) rfl rfl rfl ?_
    refine RunL.nil ?_
    refine RunE.next ?_
    refine RunC.seq ?_
    refine RunC.region ?_
    refine RunL.val (Val.load_agg rfl (.tail _ (.tail _ (.tail _ (.head _)))) ty_26 rfl) rfl rfl rfl ?_
    refine RunL.callP (isCall_func rfl ent_18) rfl rfl rfl (fun w hm => rPower_calls p q b o cap w (hS.mono (by decide) hm (by simp)) hl) ?_
    iterate 3 refine RunL.val (Val.pure rfl) rfl rfl rfl ?_
    refine RunL.new (New.alloc zero_23) rfl rfl rfl (fun b19 => ?_)
    refine RunL.sto (Sto.store rfl rfl .here ty_23 rfl rfl) rfl rfl ?_
    refine RunL.val (Val.pure rfl) rfl rfl rfl ?_
    refine RunL.nil ?_
    refine RunE.next ?_
    refine RunC.seq ?_
    refine RunC.region ?_
    refine RunL.val (Val.load_agg rfl (.tail _ (.tail _ (.tail _ (.tail _ (.head _))))) ty_26 rfl) rfl rfl rfl ?_
    refine RunL.val (Val.pure rfl) rfl rfl rfl ?_
    refine RunL.callP (isCall_func rfl ent_19) rfl rfl rfl (fun w hm => stands_same p far ▸ Stands_calls p far q b o cap w (hS.mono (by decide) hm (by simp)) hl) ?_
    iterate 3 refine RunL.val (Val.pure rfl) rfl rfl rfl ?_
    refine RunL.new (New.alloc zero_23) rfl rfl rfl (fun b21 => ?_)
    refine RunL.sto (Sto.store rfl rfl .here ty_23 rfl rfl) rfl rfl ?_
    refine RunL.val (Val.pure rfl) rfl rfl rfl ?_
    refine RunL.nil ?_
    refine RunE.next ?_
    refine RunC.seq ?_
    refine RunC.region ?_
    refine RunL.val (Val.load_agg rfl (.tail _ (.tail _ (.tail _ (.tail _ (.tail _ (.head _)))))) ty_26 rfl) rfl rfl rfl ?_
    refine RunL.val (Val.pure rfl) rfl rfl rfl ?_
    refine RunL.callP (isCall_func rfl ent_20) rfl rfl rfl (fun w hm => rStands_calls p far q b o cap w (hS.mono (by decide) hm (by simp)) hl) ?_
    iterate 3 refine RunL.val (Val.pure rfl) rfl rfl rfl ?_
    refine RunL.new (New.alloc zero_23) rfl rfl rfl (fun b23 => ?_)
    refine RunL.sto (Sto.store rfl rfl .here ty_23 rfl rfl) rfl rfl ?_
    refine RunL.val (Val.pure rfl) rfl rfl rfl ?_
    refine RunL.nil ?_
    refine RunE.next ?_
    refine RunC.seq ?_
    refine RunC.region ?_
    refine RunL.val (Val.load_agg rfl (.tail _ (.tail _ (.tail _ (.tail _ (.tail _ (.head _)))))) ty_23 rfl) rfl rfl rfl ?_
    refine RunL.val (Val.load_agg rfl (.tail _ (.tail _ (.tail _ (.tail _ (.head _))))) ty_23 rfl) rfl rfl rfl ?_
    refine RunL.val (Val.eql_pair rfl rfl pair_23) rfl rfl rfl ?_
    refine RunL.val (Val.pure rfl) rfl rfl rfl ?_
    refine RunL.sure (dj := 81) true rfl (by simp) ?_
    iterate 5 refine RunL.val (Val.pure rfl) rfl rfl rfl ?_
    refine RunL.sure (dj := 86) true rfl (by simp) ?_
    iterate 5 refine RunL.val (Val.pure rfl) rfl rfl rfl ?_
    refine RunL.sure (dj := 91) true rfl (by simp) ?_
    iterate 5 refine RunL.val (Val.pure rfl) rfl rfl rfl ?_
    refine RunL.sure (dj := 96) true rfl (by simp) ?_
    refine RunL.val (Val.load_agg rfl (.tail _ (.tail _ (.tail _ (.head _)))) ty_23 rfl) rfl rfl rfl ?_
    refine RunL.val (Val.load_agg rfl (.tail _ (.tail _ (.head _))) ty_23 rfl) rfl rfl rfl ?_
    refine RunL.val (Val.eql_pair rfl rfl pair_23) rfl rfl rfl ?_
    refine RunL.val (Val.pure rfl) rfl rfl rfl ?_
    refine RunL.val (Val.pure rfl) rfl rfl rfl ?_
    refine RunL.sure (dj := 101) true rfl (by simp) ?_
    iterate 5 refine RunL.val (Val.pure rfl) rfl rfl rfl ?_
    refine RunL.sure (dj := 106) true rfl (by simp) ?_
    refine RunL.val (Val.load_agg rfl (.tail _ (.head _)) ty_23 rfl) rfl rfl rfl ?_
    refine RunL.val (Val.load_agg rfl (.head _) ty_23 rfl) rfl rfl rfl ?_
    refine RunL.val (Val.eql_pair rfl rfl pair_23) rfl rfl rfl ?_
    refine RunL.val (Val.pure rfl) rfl rfl rfl ?_
    refine RunL.val (Val.pure rfl) rfl rfl rfl ?_
    refine RunL.sure (dj := 111) true rfl (by simp) ?_
    iterate 5 refine RunL.val (Val.pure rfl) rfl rfl rfl ?_
    refine RunL.sure (dj := 116) true rfl (by simp) ?_
    refine RunL.callP (isCall_func rfl ent_12) rfl rfl rfl (fun w hm => awake_calls w) ?_
    refine RunL.val (Val.pure rfl) rfl rfl rfl ?_
    refine RunL.val (Val.pure rfl) rfl rfl rfl ?_
    refine RunL.nil ?_
    refine RunE.next ?_
    refine RunC.ret ?_
    exact RunE.retP (.r1 rfl (.tmp rfl)) (by first | rfl | simp)
theorem finds_calls (p : Pr) (a : Int) (q : Option Addr) (b o cap : Nat) (W : World) (hS : Sl W q b o 9 (p.things.map Th.cells)) :
    Calls Try.prog 4 #[p.v q cap, .int .i64 a] W (Pure (.bool true) W) := by
  refine calls_start Try.func4 rfl rfl ?_
  refine RunC.seq ?_
  refine RunC.region ?_
  refine RunL.new (New.box rfl) rfl rfl rfl (fun b2 => ?_)
  refine RunL.val (Val.pure rfl) rfl rfl rfl ?_
  refine RunL.nil ?_
  refine RunE.next ?_
  refine RunC.seq ?_
  refine RunC.seq ?_
  refine RunC.region ?_
  refine RunL.val (Val.fieldAddr rfl fld_26_5) rfl rfl rfl ?_
  refine RunL.val (Val.load_one rfl (.head _) ty_24 rfl) rfl rfl rfl ?_
  refine RunL.val (Val.len_sl rfl sl_24) rfl rfl rfl ?_
  refine RunL.val (Val.pure rfl) rfl rfl rfl ?_
  refine RunL.nil ?_
  refine RunE.next ?_
  refine RunC.cond rfl ?_ ?_
  · intro c0
    have c0' := c0; clear c0
    try simp only [decide_eq_true_eq, decide_eq_false_iff_not, Bool.not_eq_true', Bool.not_eq_false', Bool.and_eq_true, Bool.or_eq_true, Bool.and_eq_false_iff, Bool.or_eq_false_iff, Int.not_le, Int.not_lt] at c0'
    refine RunC.seq ?_
    refine RunC.region ?_
    refine RunL.callP (isCall_func rfl ent_12) rfl rfl rfl (fun w hm => awake_calls w) ?_
    refine RunL.val (Val.pure rfl) rfl rfl rfl ?_
    refine RunL.nil ?_
    refine RunE.next ?_
    refine RunC.ret ?_
    refine RunE.pass_ret ?_
    exact RunE.retP (.r1 rfl (.tmp rfl)) (by first | rfl | simp)
  · intro c0
    have c0' := c0; clear c0
    try simp only [decide_eq_true_eq, decide_eq_false_iff_not, Bool.not_eq_true', Bool.not_eq_false', Bool.and_eq_true, Bool.or_eq_true, Bool.and_eq_false_iff, Bool.or_eq_false_iff, Int.not_le, Int.not_lt] at c0'
    have hl : p.things.length ≤ 100000000000 := by omega
    refine RunC.skip ?_
    refine RunE.next ?_
    refine RunC.seq ?_
    refine RunC.region ?_
    refine RunL.val (Val.load_agg rfl (.head _) ty_26 rfl) rfl rfl rfl ?_
    refine RunL.val (Val.pure rfl) rfl rfl rfl ?_
    refine RunL.callP (isCall_func rfl ent_21) rfl rfl rfl (fun w hm => why_same p a ▸ Why_calls p a q b o cap w (hS.mono (by decide) hm (by simp)) hl) ?_
    iterate 5 refine RunL.val (Val.pure rfl) rfl rfl rfl ?_
    refine RunL.nil ?_
    refine RunE.next ?_
    refine RunC.seq ?_
    refine RunC.region ?_
    refine RunL.val (Val.load_agg rfl (.head _) ty_26 rfl) rfl rfl rfl ?_
    refine RunL.val (Val.pure rfl) rfl rfl rfl ?_
    refine RunL.callP (isCall_func rfl ent_22) rfl rfl rfl (fun w hm => rWhy_calls p a q b o cap w (hS.mono (by decide) hm (by simp)) hl) ?_
    iterate 5 refine RunL.val (Val.pure rfl) rfl rfl rfl ?_
    refine RunL.nil ?_
    refine RunE.next ?_
    refine RunC.seq ?_
    refine RunC.region ?_
    refine RunL.val (Val.load_agg rfl (.head _) ty_26 rfl) rfl rfl rfl ?_
    refine RunL.val (Val.pure rfl) rfl rfl rfl ?_
    refine RunL.callP (isCall_func rfl ent_23) rfl rfl rfl (fun w hm => dist_same p a ▸ Distance_calls p a q b o cap w (hS.mono (by decide) hm (by simp)) hl) ?_
    iterate 3 refine RunL.val (Val.pure rfl) rfl rfl rfl ?_
    refine RunL.new (New.alloc zero_23) rfl rfl rfl (fun b9 => ?_)
    refine RunL.sto (Sto.store rfl rfl .here ty_23 rfl rfl) rfl rfl ?_
    refine RunL.val (Val.pure rfl) rfl rfl rfl ?_
    refine RunL.nil ?_
    refine RunE.next ?_
    refine RunC.seq ?_
    refine RunC.region ?_
    refine RunL.val (Val.load_agg rfl (.tail _ (.head _)) ty_26 rfl) rfl rfl rfl ?_
    refine RunL.val (Val.pure rfl) rfl rfl rfl ?_
    refine RunL.callP (isCall_func rfl ent_24) rfl rfl rfl (fun w hm => rDist_calls p a q b o cap w (hS.mono (by decide) hm (by simp)) hl) ?_
    iterate 3 refine RunL.val (Val.pure rfl) rfl rfl rfl ?_
    refine RunL.new (New.alloc zero_23) rfl rfl rfl (fun b11 => ?_)
    refine RunL.sto (Sto.store rfl rfl .here ty_23 rfl rfl) rfl rfl ?_
    refine RunL.val (Val.pure rfl) rfl rfl rfl ?_
    refine RunL.nil ?_
    refine RunE.next ?_
    refine RunC.seq ?_
    refine RunC.region ?_
    refine RunL.val (Val.load_agg rfl (.tail _ (.tail _ (.head _))) ty_26 rfl) rfl rfl rfl ?_
    refine RunL.callP (isCall_func rfl ent_25) rfl rfl rfl (fun w hm => few_same p ▸ Fewest_calls p q b o cap w (hS.mono (by decide) hm (by simp)) hl) ?_
    iterate 4 refine RunL.val (Val.pure rfl) rfl rfl rfl ?_
    refine RunL.new (New.alloc zero_23) rfl rfl rfl (fun b14 => ?_)
    refine RunL.val (Val.pure rfl) rfl rfl rfl ?_
    refine RunL.sto (Sto.store rfl rfl .here ty_23 rfl rfl) rfl rfl ?_
    refine RunL.val (Val.pure rfl) rfl rfl rfl ?_
    refine RunL.nil ?_
    refine RunE.next ?_
    refine RunC.seq ?_
    refine RunC.region ?_
    refine RunL.val (Val.load_agg rfl (.tail _ (.tail _ (.tail _ (.head _)))) ty_26 rfl) rfl rfl rfl ?_
    refine RunL.callP (isCall_func rfl ent_26) rfl rfl rfl (fun w hm => rFewest_calls p (fun _ h => rbest_ge h) q b o cap w (hS.mono (by decide) hm (by simp)) hl) ?_
    iterate 4 refine RunL.val (Val.pure rfl) rfl rfl rfl ?_
    refine RunL.new (New.alloc zero_23) rfl rfl rfl (fun b17 => ?_)
    refine RunL.val (Val.pure rfl) rfl rfl rfl ?_
    refine RunL.sto (Sto.store rfl rfl .here ty_23 rfl rfl) rfl rfl ?_
    refine RunL.val (Val.pure rfl) rfl rfl rfl ?_
    refine RunL.nil ?_
    refine RunE.next ?_
    refine RunC.seq ?_
    refine RunC.region ?_
    iterate 4 refine RunL.val (Val.pure rfl) rfl rfl rfl ?_
    refine RunL.sure (dj := 63) true rfl (by simp) ?_
    iterate 5 refine RunL.val (Val.pure rfl) rfl rfl rfl ?_
    refine RunL.sure (dj := 68) true rfl (by simp) ?_
    refine RunL.val (Val.load_agg rfl (.tail _ (.tail _ (.tail _ (.head _)))) ty_23 rfl) rfl rfl rfl ?_
    refine RunL.val (Val.load_agg rfl (.tail _ (.tail _ (.head _))) ty_23 rfl) rfl rfl rfl ?_
    refine RunL.val (Val.eql_pair rfl rfl pair_23) rfl rfl rfl ?_
    refine RunL.val (Val.pure rfl) rfl rfl rfl ?_
    refine RunL.val (Val.pure rfl) rfl rfl rfl ?_
    refine RunL.sure (dj := 73) true rfl (by simp) ?_
    iterate 5 refine RunL.val (Val.pure rfl) rfl rfl rfl ?_
    refine RunL.sure (dj := 78) true rfl (by simp) ?_
    iterate 5 refine RunL.val (Val.pure rfl) rfl rfl rfl ?_
    refine RunL.sure (dj := 83) true rfl (by simp) ?_
    refine RunL.val (Val.load_agg rfl (.tail _ (.head _)) ty_23 rfl) rfl rfl rfl ?_
    refine RunL.val (Val.load_agg rfl (.head _) ty_23 rfl) rfl rfl rfl ?_
    refine RunL.val (Val.eql_pair rfl rfl pair_23) rfl rfl rfl ?_
    refine RunL.val (Val.pure rfl) rfl rfl rfl ?_
    refine RunL.val (Val.pure rfl) rfl rfl rfl ?_
    refine RunL.sure (dj := 88) true rfl (by simp) ?_
    iterate 5 refine RunL.val (Val.pure rfl) rfl rfl rfl ?_
    refine RunL.sure (dj := 93) true rfl (by simp) ?_
    refine RunL.callP (isCall_func rfl ent_12) rfl rfl rfl (fun w hm => awake_calls w) ?_
    refine RunL.val (Val.pure rfl) rfl rfl rfl ?_
    refine RunL.val (Val.pure rfl) rfl rfl rfl ?_
    refine RunL.nil ?_
    refine RunE.next ?_
    refine RunC.ret ?_
    exact RunE.retP (.r1 rfl (.tmp rfl)) (by first | rfl | simp)
end Go.Proofs.Ythppnhjggdebbaa
