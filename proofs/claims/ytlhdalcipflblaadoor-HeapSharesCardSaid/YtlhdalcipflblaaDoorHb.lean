/- Walks of package heap: pieces of texts. -/
import Derived.Test.YtlhdalcipflblaaDoorHa
set_option linter.unusedSimpArgs false
set_option linter.unusedVariables false
namespace Go.Hp
open Go Go.Eng Go.Pw1
/-- The bytes of a text, in a block of their own. -/
theorem bytes_sl {w : World} {b e p : Nat} {l : Str} (h : w.heap[b]? = some (bytesO e (l.map byteV) p)) : Sl w (some ⟨b, 0, none⟩) b 0 1 (bytesV l) := by
  refine ⟨fun _ => rfl, fun x hx => ?_, fun i hi j hj => ?_⟩
  · obtain ⟨c, _, rfl⟩ := List.mem_map.1 hx; rfl
  · obtain rfl : j = 0 := by omega
    have hi2 : i < l.length := by simpa [bytesV] using hi
    simp [World.cell?, h, bytesO, bytesV, hi2, List.getElem?_append_left, byteV]
theorem starAt_idx : ∀ s : Str, Lib.indexByte s 42 = match starAt s with | some i => (i : Int) | none => -1
  | [] => rfl
  | c :: s => by
    have ih := starAt_idx s
    unfold Lib.indexByte starAt
    have hc : (c == 42) = decide (c.toNat = 42) := by
      rw [Bool.eq_iff_iff]
      simp only [beq_iff_eq, decide_eq_true_eq]
      exact ⟨fun h => by rw [h]; rfl, fun h => UInt8.toNat_inj.1 h⟩
    rw [hc]
    by_cases h : c.toNat = 42
    · simp [h]
    · simp only [h, decide_false, Bool.false_eq_true, if_false, ih]
      cases starAt s with
      | none => rfl
      | some i =>
        have h1 : ((i : Int) == -1) = false := by simp
        simp [h1]
theorem starAt_lt : ∀ {s : Str} {i : Nat}, starAt s = some i → i < s.length
  | c :: s, i, h => by
    unfold starAt at h
    split at h
    · cases h; simp
    · cases hs : starAt s with
      | none => rw [hs] at h; cases h
      | some j =>
        rw [hs] at h
        have := starAt_lt hs
        simp at h
        subst h
        simpa using this
def pieceT (p : Str) : TypeId := if (starAt p).isSome then 131 else 129
def pieceP (p : Str) : Value := match starAt p with
  | some i => .agg #[.string (bs (p.take i)), .string (bs (p.drop (i + 1)))]
  | none => .string (bs p)
def pieceF (p : Str) : FuncId := if (starAt p).isSome then 129 else 128
def pieceV (p : Str) : Value := .iface (pieceT p) (pieceP p)
end Go.Hp
namespace Go.Proofs.YtlhdalcipflblaaDoor
open Go Go.Eng Go.Hp Go.Pw1

theorem isPiece_calls (s : Str) (hl : s.length ≤ 1000000) (W : World) : Calls Tryd.prog 77 #[.string (bs s)] W (Pure (.bool (pieceX s)) W) := by
  refine calls_start Tryd.func77 rfl rfl ?_
  refine RunC.seq ?_
  refine RunC.region ?_
  refine RunL.val (Val.pure rfl) rfl rfl rfl ?_
  refine RunL.nil ?_
  refine RunE.next ?_
  refine RunC.seq ?_
  refine RunC.region ?_
  refine RunL.val (Val.pure rfl) rfl rfl rfl ?_
  refine RunL.nil ?_
  refine RunE.next ?_
  refine RunC.seq ?_
  refine RunC.region ?_
  refine RunL.val (Val.pure rfl) rfl rfl rfl ?_
  refine RunL.nil ?_
  refine RunE.next ?_
  refine RunC.seq ?_
  refine RunC.region ?_
  refine RunL.val (Val.pure rfl) rfl rfl rfl ?_
  refine RunL.newX (NewX.bytes rfl und_9 sls_47 und_5) rfl rfl rfl (fun p7 _ b7 => ?_)
  refine RunL.val (Val.pure rfl) rfl rfl rfl ?_
  refine RunL.nil ?_
  refine RunE.next ?_
  refine RunC.seq ?_
  refine RunC.region ?_
  refine RunL.val (Val.pure rfl) rfl rfl rfl ?_
  refine RunL.val (Val.len_sl rfl sl_47) rfl rfl rfl ?_
  refine RunL.val (Val.pure rfl) rfl rfl rfl ?_
  refine RunL.val (Val.pure rfl) rfl rfl rfl ?_
  refine RunL.andPart (dj := 11) (dp := 18) 7 rfl (fun g11 => by
    have g11' := g11
    try simp only [decide_eq_true_eq, decide_eq_false_iff_not, Bool.not_eq_true', Bool.not_eq_false', Bool.and_eq_true, Bool.or_eq_true, Bool.and_eq_false_iff, Bool.or_eq_false_iff, Int.not_le, Int.not_lt] at g11'
    refine RunL.val (Val.pure rfl) rfl rfl rfl ?_
    refine RunL.val (Val.pure rfl) rfl rfl rfl ?_
    refine RunL.callP (isCall_func rfl ent_72) rfl rfl rfl (fun w hm => counted_calls goodX s _ b7 0 _ 88 w (bytes_sl (hm.at (.head _))) (by omega) ent_88 good_calls) ?_
    refine RunL.val (Val.pure rfl) rfl rfl rfl ?_
    refine RunL.val (Val.len_sl rfl sl_47) rfl rfl rfl ?_
    refine RunL.val (Val.pure rfl) rfl rfl rfl ?_
    refine RunL.val (Val.pure rfl) rfl rfl rfl ?_
    exact RunL.segEnd (Sub.cons rfl (Sub.skip rfl (Sub.skip rfl (Sub.skip rfl (Sub.skip rfl (Sub.skip rfl (Sub.skip rfl (Sub.skip rfl (Sub.same rfl (by rw [g11]) (Sub.refl _)))))))))) (List.Sublist.refl _)
  ) (fun g11 => by
    have g11' := g11
    try simp only [decide_eq_true_eq, decide_eq_false_iff_not, Bool.not_eq_true', Bool.not_eq_false', Bool.and_eq_true, Bool.or_eq_true, Bool.and_eq_false_iff, Bool.or_eq_false_iff, Int.not_le, Int.not_lt] at g11'
    iterate 6 refine RunL.no rfl rfl rfl ?_
    refine RunL.val (Val.pure rfl) rfl rfl rfl ?_
    exact RunL.segEnd (Sub.cons rfl (Sub.skip rfl (Sub.skip rfl (Sub.skip rfl (Sub.skip rfl (Sub.skip rfl (Sub.skip rfl (Sub.skip rfl (Sub.same rfl (by rw [g11]) (Sub.refl _)))))))))) (List.Sublist.refl _)
  ) ?_
  refine RunL.val (Val.pure rfl) rfl rfl rfl ?_
  refine RunL.andPart (dj := 19) (dp := 24) 5 rfl (fun g19 => by
    have g19' := g19
    try simp only [decide_eq_true_eq, decide_eq_false_iff_not, Bool.not_eq_true', Bool.not_eq_false', Bool.and_eq_true, Bool.or_eq_true, Bool.and_eq_false_iff, Bool.or_eq_false_iff, Int.not_le, Int.not_lt] at g19'
    refine RunL.val (Val.pure rfl) rfl rfl rfl ?_
    refine RunL.val (Val.pure rfl) rfl rfl rfl ?_
    refine RunL.callP (isCall_func rfl ent_72) rfl rfl rfl (fun w hm => counted_calls starX s _ b7 0 _ 87 w (bytes_sl (hm.at (.head _))) (by omega) ent_87 star_calls) ?_
    refine RunL.val (Val.pure rfl) rfl rfl rfl ?_
    refine RunL.val (Val.pure rfl) rfl rfl rfl ?_
    exact RunL.segEnd (Sub.cons rfl (Sub.skip rfl (Sub.skip rfl (Sub.skip rfl (Sub.skip rfl (Sub.skip rfl (Sub.same rfl (by rw [g19]) (Sub.refl _)))))))) (List.Sublist.refl _)
  ) (fun g19 => by
    have g19' := g19
    try simp only [decide_eq_true_eq, decide_eq_false_iff_not, Bool.not_eq_true', Bool.not_eq_false', Bool.and_eq_true, Bool.or_eq_true, Bool.and_eq_false_iff, Bool.or_eq_false_iff, Int.not_le, Int.not_lt] at g19'
    iterate 4 refine RunL.no rfl rfl rfl ?_
    refine RunL.val (Val.pure rfl) rfl rfl rfl ?_
    exact RunL.segEnd (Sub.cons rfl (Sub.skip rfl (Sub.skip rfl (Sub.skip rfl (Sub.skip rfl (Sub.skip rfl (Sub.same rfl (by rw [g19]) (Sub.refl _)))))))) (List.Sublist.refl _)
  ) ?_
  refine RunL.val (Val.pure rfl) rfl rfl rfl ?_
  refine RunL.nil ?_
  refine RunE.next ?_
  refine RunC.ret ?_
  exact RunE.retP (.r1 rfl (.tmp rfl)) (by simp only [pieceX]; refine congrArg Value.bool ?_; refine Bool.eq_iff_iff.2 ?_; simp only [Bool.and_eq_true, decide_eq_true_eq]; omega)
theorem badTitle_calls (s : Str) (hl : s.length ≤ 1000000) (W : World) : Calls Tryd.prog 71 #[.string (bs s)] W (Pure (.bool (badTitle s)) W) := by
  refine calls_start Tryd.func71 rfl rfl ?_
  refine RunC.seq ?_
  refine RunC.region ?_
  refine RunL.val (Val.pure rfl) rfl rfl rfl ?_
  refine RunL.nil ?_
  refine RunE.next ?_
  refine RunC.seq ?_
  refine RunC.region ?_
  refine RunL.val (Val.pure rfl) rfl rfl rfl ?_
  refine RunL.val (Val.lenS rfl und_9) rfl rfl rfl ?_
  refine RunL.callP (isCall_func rfl ent_53) rfl rfl rfl (fun w hm => hwithin_calls _ _ _ w) ?_
  refine RunL.val (Val.pure rfl) rfl rfl rfl ?_
  refine RunL.val (Val.pure rfl) rfl rfl rfl ?_
  refine RunL.orPart (dj := 7) (dp := 14) 7 rfl (fun g7 => by
    have g7' := g7
    try simp only [decide_eq_true_eq, decide_eq_false_iff_not, Bool.not_eq_true', Bool.not_eq_false', Bool.and_eq_true, Bool.or_eq_true, Bool.and_eq_false_iff, Bool.or_eq_false_iff, Int.not_le, Int.not_lt] at g7'
    refine RunL.val (Val.pure rfl) rfl rfl rfl ?_
    refine RunL.newX (NewX.bytes rfl und_9 sls_47 und_5) rfl rfl rfl (fun p9 _ b9 => ?_)
    refine RunL.callP (isCall_func rfl ent_72) rfl rfl rfl (fun w hm => counted_calls letterX s _ b9 0 _ 73 w (bytes_sl (hm.at (.head _))) (by omega) ent_73 letter_calls) ?_
    refine RunL.val (Val.pure rfl) rfl rfl rfl ?_
    refine RunL.val (Val.lenS rfl und_9) rfl rfl rfl ?_
    refine RunL.val (Val.pure rfl) rfl rfl rfl ?_
    refine RunL.val (Val.pure rfl) rfl rfl rfl ?_
    exact RunL.segEnd (Sub.cons rfl (Sub.skip rfl (Sub.skip rfl (Sub.skip rfl (Sub.skip rfl (Sub.skip rfl (Sub.skip rfl (Sub.skip rfl (Sub.same rfl (by rw [g7]) (Sub.refl _)))))))))) (.cons _ (List.Sublist.refl _))
  ) (fun g7 => by
    have g7' := g7
    try simp only [decide_eq_true_eq, decide_eq_false_iff_not, Bool.not_eq_true', Bool.not_eq_false', Bool.and_eq_true, Bool.or_eq_true, Bool.and_eq_false_iff, Bool.or_eq_false_iff, Int.not_le, Int.not_lt] at g7'
    iterate 6 refine RunL.no rfl rfl rfl ?_
    refine RunL.val (Val.pure rfl) rfl rfl rfl ?_
    exact RunL.segEnd (Sub.cons rfl (Sub.skip rfl (Sub.skip rfl (Sub.skip rfl (Sub.skip rfl (Sub.skip rfl (Sub.skip rfl (Sub.skip rfl (Sub.same rfl (by rw [g7]) (Sub.refl _)))))))))) (List.Sublist.refl _)
  ) ?_
  refine RunL.val (Val.pure rfl) rfl rfl rfl ?_
  refine RunL.nil ?_
  refine RunE.next ?_
  refine RunC.ret ?_
  exact RunE.retP (.r1 rfl (.tmp rfl)) (by simp only [badTitle]; refine congrArg Value.bool ?_; refine Bool.eq_iff_iff.2 ?_; simp only [Bool.or_eq_true, decide_eq_true_eq, Int.ofNat_lt])
theorem badCard_calls (t : Tn) (h : t.number.length ≤ 1000000 ∧ t.text.length ≤ 1000000) (W : World) : Calls Tryd.prog 76 #[.agg t.cells.toArray] W (Pure (.bool (badCard t)) W) := by
  refine calls_start Tryd.func76 rfl rfl ?_
  refine RunC.seq ?_
  refine RunC.region ?_
  refine RunL.new (New.box rfl) rfl rfl rfl (fun b1 => ?_)
  refine RunL.val (Val.pure rfl) rfl rfl rfl ?_
  refine RunL.nil ?_
  refine RunE.next ?_
  refine RunC.seq ?_
  refine RunC.region ?_
  refine RunL.val (Val.fieldAddr rfl fld_50_0) rfl rfl rfl ?_
  refine RunL.val (Val.load_one rfl (.head _) ty_3 rfl) rfl rfl rfl ?_
  refine RunL.callP (isCall_func rfl ent_53) rfl rfl rfl (fun w hm => hwithin_calls _ _ _ w) ?_
  refine RunL.val (Val.pure rfl) rfl rfl rfl ?_
  refine RunL.val (Val.pure rfl) rfl rfl rfl ?_
  refine RunL.orPart (dj := 7) (dp := 12) 5 rfl (fun g7 => by
    have g7' := g7
    try simp only [decide_eq_true_eq, decide_eq_false_iff_not, Bool.not_eq_true', Bool.not_eq_false', Bool.and_eq_true, Bool.or_eq_true, Bool.and_eq_false_iff, Bool.or_eq_false_iff, Int.not_le, Int.not_lt] at g7'
    refine RunL.val (Val.fieldAddr rfl fld_50_1) rfl rfl rfl ?_
    refine RunL.val (Val.load_one rfl (.head _) ty_9 rfl) rfl rfl rfl ?_
    refine RunL.callP (isCall_func rfl ent_77) rfl rfl rfl (fun w hm => isPiece_calls t.number h.1 w) ?_
    refine RunL.val (Val.pure rfl) rfl rfl rfl ?_
    refine RunL.val (Val.pure rfl) rfl rfl rfl ?_
    exact RunL.segEnd (Sub.cons rfl (Sub.skip rfl (Sub.skip rfl (Sub.skip rfl (Sub.skip rfl (Sub.skip rfl (Sub.same rfl (by rw [g7]) (Sub.refl _)))))))) (List.Sublist.refl _)
  ) (fun g7 => by
    have g7' := g7
    try simp only [decide_eq_true_eq, decide_eq_false_iff_not, Bool.not_eq_true', Bool.not_eq_false', Bool.and_eq_true, Bool.or_eq_true, Bool.and_eq_false_iff, Bool.or_eq_false_iff, Int.not_le, Int.not_lt] at g7'
    iterate 4 refine RunL.no rfl rfl rfl ?_
    refine RunL.val (Val.pure rfl) rfl rfl rfl ?_
    exact RunL.segEnd (Sub.cons rfl (Sub.skip rfl (Sub.skip rfl (Sub.skip rfl (Sub.skip rfl (Sub.skip rfl (Sub.same rfl (by rw [g7]) (Sub.refl _)))))))) (List.Sublist.refl _)
  ) ?_
  refine RunL.val (Val.pure rfl) rfl rfl rfl ?_
  refine RunL.orPart (dj := 13) (dp := 18) 5 rfl (fun g13 => by
    have g13' := g13
    try simp only [decide_eq_true_eq, decide_eq_false_iff_not, Bool.not_eq_true', Bool.not_eq_false', Bool.and_eq_true, Bool.or_eq_true, Bool.and_eq_false_iff, Bool.or_eq_false_iff, Int.not_le, Int.not_lt] at g13'
    refine RunL.val (Val.fieldAddr rfl fld_50_2) rfl rfl rfl ?_
    refine RunL.val (Val.load_one rfl (.head _) ty_9 rfl) rfl rfl rfl ?_
    refine RunL.callP (isCall_func rfl ent_77) rfl rfl rfl (fun w hm => isPiece_calls t.text h.2 w) ?_
    refine RunL.val (Val.pure rfl) rfl rfl rfl ?_
    refine RunL.val (Val.pure rfl) rfl rfl rfl ?_
    exact RunL.segEnd (Sub.cons rfl (Sub.skip rfl (Sub.skip rfl (Sub.skip rfl (Sub.skip rfl (Sub.skip rfl (Sub.same rfl (by rw [g13]) (Sub.refl _)))))))) (List.Sublist.refl _)
  ) (fun g13 => by
    have g13' := g13
    try simp only [decide_eq_true_eq, decide_eq_false_iff_not, Bool.not_eq_true', Bool.not_eq_false', Bool.and_eq_true, Bool.or_eq_true, Bool.and_eq_false_iff, Bool.or_eq_false_iff, Int.not_le, Int.not_lt] at g13'
    iterate 4 refine RunL.no rfl rfl rfl ?_
    refine RunL.val (Val.pure rfl) rfl rfl rfl ?_
    exact RunL.segEnd (Sub.cons rfl (Sub.skip rfl (Sub.skip rfl (Sub.skip rfl (Sub.skip rfl (Sub.skip rfl (Sub.same rfl (by rw [g13]) (Sub.refl _)))))))) (List.Sublist.refl _)
  ) ?_
  refine RunL.val (Val.pure rfl) rfl rfl rfl ?_
  refine RunL.nil ?_
  refine RunE.next ?_
  refine RunC.ret ?_
  exact RunE.retP (.r1 rfl (.tmp rfl)) (by first | rfl | simp)
theorem whole_calls (p s : Str) (hp : p.length ≤ 1000000) (hs : s.length ≤ 1000000) (W : World) : Calls Tryd.prog 128 #[.string (bs p), .string (bs s)] W (Pure (.bool (suitsW p s)) W) := by
  refine calls_start Tryd.func128 rfl rfl ?_
  refine RunC.seq ?_
  refine RunC.region ?_
  refine RunL.val (Val.pure rfl) rfl rfl rfl ?_
  refine RunL.nil ?_
  refine RunE.next ?_
  refine RunC.seq ?_
  refine RunC.seq ?_
  refine RunC.region ?_
  refine RunL.val (Val.pure rfl) rfl rfl rfl ?_
  refine RunL.val (Val.lenS rfl und_129) rfl rfl rfl ?_
  refine RunL.val (Val.pure rfl) rfl rfl rfl ?_
  refine RunL.val (Val.lenS rfl und_9) rfl rfl rfl ?_
  refine RunL.val (Val.pure rfl) rfl rfl rfl ?_
  refine RunL.nil ?_
  refine RunE.next ?_
  refine RunC.cond rfl ?_ ?_
  · intro c0
    have c0' := c0; clear c0
    try simp only [decide_eq_true_eq, decide_eq_false_iff_not, Bool.not_eq_true', Bool.not_eq_false', Bool.and_eq_true, Bool.or_eq_true, Bool.and_eq_false_iff, Bool.or_eq_false_iff, Int.not_le, Int.not_lt] at c0'
    have hne : p.length ≠ s.length := by omega
    refine RunC.seq ?_
    refine RunC.region ?_
    refine RunL.val (Val.pure rfl) rfl rfl rfl ?_
    refine RunL.nil ?_
    refine RunE.next ?_
    refine RunC.ret ?_
    refine RunE.pass_ret ?_
    exact RunE.retP (.r1 rfl (.tmp rfl)) (by rw [suitsW_len hne])
  · intro c0
    have c0' := c0; clear c0
    try simp only [decide_eq_true_eq, decide_eq_false_iff_not, Bool.not_eq_true', Bool.not_eq_false', Bool.and_eq_true, Bool.or_eq_true, Bool.and_eq_false_iff, Bool.or_eq_false_iff, Int.not_le, Int.not_lt] at c0'
    have heq : p.length = s.length := by omega
    refine RunC.skip ?_
    refine RunE.next ?_
    refine RunC.seq ?_
    refine RunC.seq ?_
    refine RunC.region ?_
    refine RunL.val (Val.pure rfl) rfl rfl rfl ?_
    refine RunL.val (Val.lenS rfl und_9) rfl rfl rfl ?_
    refine RunL.val (Val.pure rfl) rfl rfl rfl ?_
    refine RunL.nil ?_
    refine RunE.next ?_
    refine RunC.block ?_
    refine RunC.loopK (s.length) (fun k q => (13, .int .i64 (k : Int)) :: q) (fun _ => _) (fun _ => []) (fun k => ∀ j (h : j < k) (h1 : j < p.length) (h2 : j < s.length), p[j].toNat = 63 ∨ p[j] = s[j]) (fun j h => absurd h (by omega)) rfl (Sub.consE (t := 13) rfl rfl (Sub.cons (t := 0) rfl (Sub.cons (t := 1) rfl (Sub.cons (t := 11) rfl (Sub.cons (t := 12) rfl (Sub.nil _)))))) .nil ?_
    intro k kN kI
    refine RunC.seq ?_
    refine RunC.region ?_
    refine RunL.val (Val.pure rfl) rfl rfl rfl ?_
    refine RunL.nil ?_
    refine RunE.next ?_
    refine RunC.seq ?_
    refine RunC.cond rfl ?_ ?_
    · intro c1
      have c1' := c1; clear c1
      try simp only [decide_eq_true_eq, decide_eq_false_iff_not, Bool.not_eq_true', Bool.not_eq_false', Bool.and_eq_true, Bool.or_eq_true, Bool.and_eq_false_iff, Bool.or_eq_false_iff, Int.not_le, Int.not_lt] at c1'
      have hk : k < s.length := by omega
      have hk2 : k < p.length := by omega
      obtain ⟨x, hx⟩ : ∃ x, p[k] = x := ⟨_, rfl⟩
      obtain ⟨y, hy⟩ : ∃ y, s[k] = y := ⟨_, rfl⟩
      have hx2 : p[(k : Int).toNat]? = some x := by simp [hk2, hx]
      have hy2 : s[(k : Int).toNat]? = some y := by simp [hk, hy]
      refine RunC.skip ?_
      refine RunE.next ?_
      refine RunC.seq ?_
      refine RunC.block ?_
      refine RunC.seq ?_
      refine RunC.region ?_
      refine RunL.val (Val.pure rfl) rfl rfl rfl ?_
      refine RunL.val (Val.pure rfl) rfl rfl rfl ?_
      refine RunL.nil ?_
      refine RunE.next ?_
      refine RunC.seq ?_
      apply RunC.drawJ (J := J0 _ _ _ _ _ _) 11 fol_ .nil
      · refine RunA.val (i := 0) rfl (by kernel_rfl) (by kernel_rfl) (Val.pure rfl) rfl rfl rfl (fun _ _ _ h => h) .nil rfl ?_
        refine RunA.val (i := 1) rfl (by kernel_rfl) (by kernel_rfl) (Val.pure rfl) rfl rfl rfl (fun _ _ _ h => h) .nil rfl ?_
        refine RunA.val (i := 2) rfl (by kernel_rfl) (by kernel_rfl) (Val.strIndex rfl rfl und_129 (by omega) hx2) rfl rfl rfl (fun _ _ _ h => h) .nil rfl ?_
        refine RunA.val (i := 3) rfl (by kernel_rfl) (by kernel_rfl) (Val.pure rfl) rfl rfl rfl (fun _ _ _ h => h) .nil rfl ?_
        refine RunA.val (i := 4) rfl (by kernel_rfl) (by kernel_rfl) (Val.pure rfl) rfl rfl rfl (fun _ _ _ h => h) .nil rfl ?_
        refine RunA.ways (dj := 20) rfl ?_ ?_
        · intro g20
          have g20' := g20; clear g20
          try simp only [decide_eq_true_eq, decide_eq_false_iff_not, Bool.not_eq_true', Bool.not_eq_false', Bool.and_eq_true, Bool.or_eq_true, Bool.and_eq_false_iff, Bool.or_eq_false_iff, Int.not_le, Int.not_lt] at g20'
          refine RunA.val (i := 5) rfl (by kernel_rfl) (by kernel_rfl) (Val.pure rfl) rfl rfl rfl (fun _ _ _ h => h) .nil rfl ?_
          refine RunA.val (i := 6) rfl (by kernel_rfl) (by kernel_rfl) (Val.pure rfl) rfl rfl rfl (fun _ _ _ h => h) .nil rfl ?_
          refine RunA.val (i := 7) rfl (by kernel_rfl) (by kernel_rfl) (Val.strIndex rfl rfl und_129 (by omega) hx2) rfl rfl rfl (fun _ _ _ h => h) .nil rfl ?_
          refine RunA.val (i := 8) rfl (by kernel_rfl) (by kernel_rfl) (Val.pure rfl) rfl rfl rfl (fun _ _ _ h => h) .nil rfl ?_
          refine RunA.val (i := 9) rfl (by kernel_rfl) (by kernel_rfl) (Val.pure rfl) rfl rfl rfl (fun _ _ _ h => h) .nil rfl ?_
          refine RunA.val (i := 10) rfl (by kernel_rfl) (by kernel_rfl) (Val.strIndex rfl rfl und_9 (by omega) hy2) rfl rfl rfl (fun _ _ _ h => h) .nil rfl ?_
          refine RunA.toB (by kernel_rfl) ?_
          refine RunB.one (i := 11) (by kernel_rfl) ?_
          refine RunI.val rfl (Val.pure rfl) rfl rfl rfl (RunK.toB ?_)
          refine RunB.one (i := 12) (by kernel_rfl) ?_
          refine RunI.val rfl (Val.pure rfl) rfl rfl rfl (RunK.toB ?_)
          refine RunB.done (by kernel_rfl) ?_
          exact RunE.join0  (Sub.consE (t := 28) (v := .bool (!(decide ((x.toNat : Int) = 63) || decide ((x.toNat : Int) = (y.toNat : Int))))) rfl (by first | rfl | (refine congrArg Value.bool (Bool.eq_iff_iff.2 ?_); simp only [Bool.or_eq_true, Bool.and_eq_true, Bool.not_eq_true', Bool.or_eq_false_iff, Bool.and_eq_false_iff, Bool.not_eq_false', decide_eq_true_eq, decide_eq_false_iff_not, Bool.false_eq_true, true_iff, false_iff, iff_true, iff_false, and_true, true_and, Bool.and_true, Bool.true_and]; omega)) (Sub.skip rfl (Sub.skip rfl (Sub.skip rfl (Sub.skip rfl (Sub.skip rfl (Sub.skip rfl (Sub.skip rfl (Sub.skip rfl (Sub.skip rfl (Sub.skip rfl (Sub.skip rfl (Sub.skip rfl (Sub.skip rfl (Sub.skip rfl (Sub.refl _)))))))))))))))) (Pick.refl _)
        · intro g20
          have g20' := g20; clear g20
          try simp only [decide_eq_true_eq, decide_eq_false_iff_not, Bool.not_eq_true', Bool.not_eq_false', Bool.and_eq_true, Bool.or_eq_true, Bool.and_eq_false_iff, Bool.or_eq_false_iff, Int.not_le, Int.not_lt] at g20'
          refine RunA.no (i := 5) rfl (by kernel_rfl) (by kernel_rfl) rfl rfl rfl (fun _ _ _ h => h) .nil rfl ?_
          refine RunA.no (i := 6) rfl (by kernel_rfl) (by kernel_rfl) rfl rfl rfl (fun _ _ _ h => h) .nil rfl ?_
          refine RunA.no (i := 7) rfl (by kernel_rfl) (by kernel_rfl) rfl rfl rfl (fun _ _ _ h => h) .nil rfl ?_
          refine RunA.no (i := 8) rfl (by kernel_rfl) (by kernel_rfl) rfl rfl rfl (fun _ _ _ h => h) .nil rfl ?_
          refine RunA.no (i := 9) rfl (by kernel_rfl) (by kernel_rfl) rfl rfl rfl (fun _ _ _ h => h) .nil rfl ?_
          refine RunA.no (i := 10) rfl (by kernel_rfl) (by kernel_rfl) rfl rfl rfl (fun _ _ _ h => h) .nil rfl ?_
          refine RunA.toB (by kernel_rfl) ?_
          refine RunB.one (i := 11) (by kernel_rfl) ?_
          refine RunI.no rfl rfl rfl rfl (RunK.toB ?_)
          refine RunB.one (i := 12) (by kernel_rfl) ?_
          refine RunI.val rfl (Val.pure rfl) rfl rfl rfl (RunK.toB ?_)
          refine RunB.done (by kernel_rfl) ?_
          exact RunE.join0  (Sub.consE (t := 28) (v := .bool (!(decide ((x.toNat : Int) = 63) || decide ((x.toNat : Int) = (y.toNat : Int))))) rfl (by first | rfl | (refine congrArg Value.bool (Bool.eq_iff_iff.2 ?_); simp only [Bool.or_eq_true, Bool.and_eq_true, Bool.not_eq_true', Bool.or_eq_false_iff, Bool.and_eq_false_iff, Bool.not_eq_false', decide_eq_true_eq, decide_eq_false_iff_not, Bool.false_eq_true, true_iff, false_iff, iff_true, iff_false, and_true, true_and, Bool.and_true, Bool.true_and]; omega)) (Sub.skip rfl (Sub.skip rfl (Sub.skip rfl (Sub.skip rfl (Sub.skip rfl (Sub.skip rfl (Sub.skip rfl (Sub.skip rfl (Sub.skip rfl (Sub.skip rfl (Sub.skip rfl (Sub.skip rfl (Sub.skip rfl (Sub.skip rfl (Sub.refl _)))))))))))))))) .nil
      refine J0.out ?_
      refine RunE.next ?_
      refine RunC.cond rfl ?_ ?_
      · intro c2
        have c2' := c2; clear c2
        try simp only [decide_eq_true_eq, decide_eq_false_iff_not, Bool.not_eq_true', Bool.not_eq_false', Bool.and_eq_true, Bool.or_eq_true, Bool.and_eq_false_iff, Bool.or_eq_false_iff, Int.not_le, Int.not_lt] at c2'
        have hN : suitsW p s = false := by (rw [Bool.eq_false_iff]; intro h; have h3 := (suitsW_iff.1 h).2 k hk2 hk; rw [hx, hy] at h3; rcases h3 with h3 | h3; omega; (have h4 := congrArg UInt8.toNat h3; omega))
        refine RunC.seq ?_
        refine RunC.region ?_
        refine RunL.val (Val.pure rfl) rfl rfl rfl ?_
        refine RunL.nil ?_
        refine RunE.next ?_
        refine RunC.ret ?_
        refine RunE.block_ret ?_
        refine RunE.pass_ret ?_
        refine RunE.pass_ret ?_
        refine RunE.block_ret ?_
        refine RunE.pass_ret ?_
        exact RunE.retP (.r1 rfl (.tmp rfl)) (by rw [hN])
      · intro c2
        have c2' := c2; clear c2
        try simp only [decide_eq_true_eq, decide_eq_false_iff_not, Bool.not_eq_true', Bool.not_eq_false', Bool.and_eq_true, Bool.or_eq_true, Bool.and_eq_false_iff, Bool.or_eq_false_iff, Int.not_le, Int.not_lt] at c2'
        have hJ : p[k].toNat = 63 ∨ p[k] = s[k] := by (rw [hx, hy]; rcases c2' with h | h; (left; omega); (right; exact UInt8.toNat_inj.1 (by omega)))
        refine RunC.skip ?_
        refine RunE.block_normal ?_
        refine RunE.next ?_
        refine RunC.region ?_
        refine RunL.val (Val.add rfl rfl (IntWalk.i64_in _ ⟨by omega, by omega⟩)) rfl rfl rfl ?_
        refine RunL.val (Val.pure rfl) rfl rfl rfl ?_
        refine RunL.nil ?_
        exact RunE.round (by omega) (fun j h h1 h2 => by (rcases Nat.lt_or_ge j k with h4 | h4; exact kI j h4 h1 h2; have e : j = k := (by omega); subst e; exact hJ)) rfl (Sub.consE (t := 13) rfl rfl (Sub.cons (t := 0) rfl (Sub.cons (t := 1) rfl (Sub.cons (t := 11) rfl (Sub.cons (t := 12) rfl (Sub.nil _)))))) .nil
    · intro c1
      have c1' := c1; clear c1
      try simp only [decide_eq_true_eq, decide_eq_false_iff_not, Bool.not_eq_true', Bool.not_eq_false', Bool.and_eq_true, Bool.or_eq_true, Bool.and_eq_false_iff, Bool.or_eq_false_iff, Int.not_le, Int.not_lt] at c1'
      obtain rfl : k = s.length := by omega
      refine RunC.exit ?_
      refine RunE.pass_exit ?_
      refine RunE.pass_exit ?_
      refine RunE.block_here ?_
      refine RunE.next ?_
      refine RunC.seq ?_
      refine RunC.region ?_
      refine RunL.val (Val.pure rfl) rfl rfl rfl ?_
      refine RunL.nil ?_
      refine RunE.next ?_
      refine RunC.ret ?_
      exact RunE.retP (.r1 rfl (.tmp rfl)) (by rw [suitsW_iff.2 ⟨heq, fun j h1 h2 => kI j h2 h1 h2⟩])
theorem ends_calls (h t s : Str) (hh : h.length ≤ 1000000) (ht : t.length ≤ 1000000) (hs : s.length ≤ 1000000) (W : World) : Calls Tryd.prog 129 #[.agg #[.string (bs h), .string (bs t)], .string (bs s)] W (Pure (.bool (suitsE h t s)) W) := by
  refine calls_start Tryd.func129 rfl rfl ?_
  refine RunC.seq ?_
  refine RunC.region ?_
  refine RunL.new (New.box rfl) rfl rfl rfl (fun b2 => ?_)
  refine RunL.val (Val.pure rfl) rfl rfl rfl ?_
  refine RunL.nil ?_
  refine RunE.next ?_
  refine RunC.seq ?_
  refine RunC.draw 7 fol_ (.cons .here rfl .nil) ?_
  refine RunA.val (i := 0) rfl (by kernel_rfl) (by kernel_rfl) (Val.fieldAddr rfl fld_131_0) rfl rfl rfl (fun _ _ _ h => h) (.cons .here rfl .nil) rfl ?_
  refine RunA.val (i := 1) rfl (by kernel_rfl) (by kernel_rfl) (Val.load_one rfl (.head _) ty_129 rfl) rfl rfl rfl (fun _ _ _ h => h) (.cons .here rfl .nil) rfl ?_
  refine RunA.val (i := 2) rfl (by kernel_rfl) (by kernel_rfl) (Val.lenS rfl und_129) rfl rfl rfl (fun _ _ _ h => h) (.cons .here rfl .nil) rfl ?_
  refine RunA.val (i := 3) rfl (by kernel_rfl) (by kernel_rfl) (Val.fieldAddr rfl fld_131_1) rfl rfl rfl (fun _ _ _ h => h) (.cons .here rfl .nil) rfl ?_
  refine RunA.val (i := 4) rfl (by kernel_rfl) (by kernel_rfl) (Val.load_one rfl (.head _) ty_129 rfl) rfl rfl rfl (fun _ _ _ h => h) (.cons .here rfl .nil) rfl ?_
  refine RunA.val (i := 5) rfl (by kernel_rfl) (by kernel_rfl) (Val.lenS rfl und_129) rfl rfl rfl (fun _ _ _ h => h) (.cons .here rfl .nil) rfl ?_
  refine RunA.val (i := 6) rfl (by kernel_rfl) (by kernel_rfl) (Val.pure rfl) rfl rfl rfl (fun _ _ _ h => h) (.cons .here rfl .nil) rfl ?_
  refine RunA.toB (by kernel_rfl) ?_
  refine RunB.one (i := 7) (by kernel_rfl) ?_
  refine RunI.val rfl (Val.pure rfl) rfl rfl rfl (RunK.toB ?_)
  refine RunB.done (by kernel_rfl) ?_
  refine RunE.next ?_
  refine RunC.seq ?_
  refine RunC.keep (Sub.cons (t := 1) rfl (Sub.cons (t := 2) rfl (Sub.cons (t := 5) rfl (Sub.cons (t := 6) rfl (Sub.nil _))))) (.cons .here rfl .nil) ?_
  apply RunC.drawJ (J := J0 _ _ _ _ _ _) 23 fol_ (.cons .here rfl .nil)
  · refine RunA.val (i := 0) rfl (by kernel_rfl) (by kernel_rfl) (Val.pure rfl) rfl rfl rfl (fun _ _ _ h => h) (.cons .here rfl .nil) rfl ?_
    refine RunA.val (i := 1) rfl (by kernel_rfl) (by kernel_rfl) (Val.pure rfl) rfl rfl rfl (fun _ _ _ h => h) (.cons .here rfl .nil) rfl ?_
    refine RunA.val (i := 2) rfl (by kernel_rfl) (by kernel_rfl) (Val.add rfl rfl (IntWalk.i64_in _ ⟨by omega, by omega⟩)) rfl rfl rfl (fun _ _ _ h => h) (.cons .here rfl .nil) rfl ?_
    refine RunA.val (i := 3) rfl (by kernel_rfl) (by kernel_rfl) (Val.pure rfl) rfl rfl rfl (fun _ _ _ h => h) (.cons .here rfl .nil) rfl ?_
    refine RunA.val (i := 4) rfl (by kernel_rfl) (by kernel_rfl) (Val.lenS rfl und_9) rfl rfl rfl (fun _ _ _ h => h) (.cons .here rfl .nil) rfl ?_
    refine RunA.val (i := 5) rfl (by kernel_rfl) (by kernel_rfl) (Val.pure rfl) rfl rfl rfl (fun _ _ _ h => h) (.cons .here rfl .nil) rfl ?_
    refine RunA.val (i := 6) rfl (by kernel_rfl) (by kernel_rfl) (Val.pure rfl) rfl rfl rfl (fun _ _ _ h => h) (.cons .here rfl .nil) rfl ?_
    refine RunA.ways (dj := 19) rfl ?_ ?_
    · intro g19
      have g19' := g19; clear g19
      try simp only [decide_eq_true_eq, decide_eq_false_iff_not, Bool.not_eq_true', Bool.not_eq_false', Bool.and_eq_true, Bool.or_eq_true, Bool.and_eq_false_iff, Bool.or_eq_false_iff, Int.not_le, Int.not_lt] at g19'
      refine RunA.val (i := 7) rfl (by kernel_rfl) (by kernel_rfl) (Val.fieldAddr rfl fld_131_0) rfl rfl rfl (fun _ _ _ h => h) (.cons .here rfl .nil) rfl ?_
      refine RunA.val (i := 8) rfl (by kernel_rfl) (by kernel_rfl) (Val.load_one rfl (.head _) ty_129 rfl) rfl rfl rfl (fun _ _ _ h => h) (.cons .here rfl .nil) rfl ?_
      refine RunA.val (i := 9) rfl (by kernel_rfl) (by kernel_rfl) (Val.pure rfl) rfl rfl rfl (fun _ _ _ h => h) (.cons .here rfl .nil) rfl ?_
      refine RunA.val (i := 10) rfl (by kernel_rfl) (by kernel_rfl) (Val.pure rfl) rfl rfl rfl (fun _ _ _ h => h) (.cons .here rfl .nil) rfl ?_
      refine RunA.val (i := 11) rfl (by kernel_rfl) (by kernel_rfl) (Val.strTo rfl rfl und_9 (by omega)) rfl rfl rfl (fun _ _ _ h => h) (.cons .here rfl .nil) rfl ?_
      refine RunA.one (i := 12) (by kernel_rfl) (by kernel_rfl) ?_
      refine RunI.callP rfl (isCall_func rfl ent_128) rfl rfl rfl (fun w hm => whole_calls h _ hh (by simp; omega) w) (RunK.toA (.cons .here rfl .nil) (.cons .here rfl .nil) rfl ?_)
      refine RunA.val (i := 13) rfl (by kernel_rfl) (by kernel_rfl) (Val.pure rfl) rfl rfl rfl (fun _ _ _ h => h) (.cons .here rfl .nil) rfl ?_
      refine RunA.val (i := 14) rfl (by kernel_rfl) (by kernel_rfl) (Val.pure rfl) rfl rfl rfl (fun _ _ _ h => h) (.cons .here rfl .nil) rfl ?_
      refine RunA.ways (dj := 27) rfl ?_ ?_
      · intro g27
        have g27' := g27; clear g27
        try simp only [decide_eq_true_eq, decide_eq_false_iff_not, Bool.not_eq_true', Bool.not_eq_false', Bool.and_eq_true, Bool.or_eq_true, Bool.and_eq_false_iff, Bool.or_eq_false_iff, Int.not_le, Int.not_lt] at g27'
        refine RunA.val (i := 15) rfl (by kernel_rfl) (by kernel_rfl) (Val.fieldAddr rfl fld_131_1) rfl rfl rfl (fun _ _ _ h => h) (.cons .here rfl .nil) rfl ?_
        refine RunA.val (i := 16) rfl (by kernel_rfl) (by kernel_rfl) (Val.load_one rfl (.head _) ty_129 rfl) rfl rfl rfl (fun _ _ _ h => h) (.cons .here rfl .nil) rfl ?_
        refine RunA.val (i := 17) rfl (by kernel_rfl) (by kernel_rfl) (Val.pure rfl) rfl rfl rfl (fun _ _ _ h => h) (.cons .here rfl .nil) rfl ?_
        refine RunA.val (i := 18) rfl (by kernel_rfl) (by kernel_rfl) (Val.pure rfl) rfl rfl rfl (fun _ _ _ h => h) (.cons .here rfl .nil) rfl ?_
        refine RunA.val (i := 19) rfl (by kernel_rfl) (by kernel_rfl) (Val.lenS rfl und_9) rfl rfl rfl (fun _ _ _ h => h) (.cons .here rfl .nil) rfl ?_
        refine RunA.val (i := 20) rfl (by kernel_rfl) (by kernel_rfl) (Val.pure rfl) rfl rfl rfl (fun _ _ _ h => h) (.cons .here rfl .nil) rfl ?_
        refine RunA.val (i := 21) rfl (by kernel_rfl) (by kernel_rfl) (Val.sub' rfl rfl (IntWalk.i64_in _ ⟨by omega, by omega⟩)) rfl rfl rfl (fun _ _ _ h => h) (.cons .here rfl .nil) rfl ?_
        refine RunA.val (i := 22) rfl (by kernel_rfl) (by kernel_rfl) (Val.strFrom (a := s.length - t.length) rfl (by show some (Value.int _ _) = some (Value.int _ _); congr 2; first | omega | (exfalso; simp at g27')) und_9 (by omega)) rfl rfl rfl (fun _ _ _ h => h) (.cons .here rfl .nil) rfl ?_
        refine RunA.toB (by kernel_rfl) ?_
        refine RunB.one (i := 23) (by kernel_rfl) ?_
        refine RunI.callP rfl (isCall_func rfl ent_128) rfl rfl rfl (fun w hm => whole_calls t _ ht (by simp; omega) w) (RunK.toB ?_)
        refine RunB.one (i := 24) (by kernel_rfl) ?_
        refine RunI.val rfl (Val.pure rfl) rfl rfl rfl (RunK.toB ?_)
        refine RunB.one (i := 25) (by kernel_rfl) ?_
        refine RunI.val rfl (Val.pure rfl) rfl rfl rfl (RunK.toB ?_)
        refine RunB.done (by kernel_rfl) ?_
        exact RunE.join0  (Sub.consE (t := 4) (v := .bool (suitsE h t s)) rfl (by simp_all [suitsE] <;> (intros; omega)) (Sub.skip rfl (Sub.skip rfl (Sub.skip rfl (Sub.skip rfl (Sub.skip rfl (Sub.skip rfl (Sub.skip rfl (Sub.skip rfl (Sub.skip rfl (Sub.skip rfl (Sub.skip rfl (Sub.skip rfl (Sub.skip rfl (Sub.skip rfl (Sub.skip rfl (Sub.skip rfl (Sub.skip rfl (Sub.skip rfl (Sub.skip rfl (Sub.skip rfl (Sub.skip rfl (Sub.skip rfl (Sub.skip rfl (Sub.skip rfl (Sub.skip rfl (Sub.skip rfl (Sub.skip rfl (Sub.skip rfl (Sub.refl _)))))))))))))))))))))))))))))) (Pick.refl _)
      · intro g27
        have g27' := g27; clear g27
        try simp only [decide_eq_true_eq, decide_eq_false_iff_not, Bool.not_eq_true', Bool.not_eq_false', Bool.and_eq_true, Bool.or_eq_true, Bool.and_eq_false_iff, Bool.or_eq_false_iff, Int.not_le, Int.not_lt] at g27'
        refine RunA.no (i := 15) rfl (by kernel_rfl) (by kernel_rfl) rfl rfl rfl (fun _ _ _ h => h) (.cons .here rfl .nil) rfl ?_
        refine RunA.no (i := 16) rfl (by kernel_rfl) (by kernel_rfl) rfl rfl rfl (fun _ _ _ h => h) (.cons .here rfl .nil) rfl ?_
        refine RunA.no (i := 17) rfl (by kernel_rfl) (by kernel_rfl) rfl rfl rfl (fun _ _ _ h => h) (.cons .here rfl .nil) rfl ?_
        refine RunA.no (i := 18) rfl (by kernel_rfl) (by kernel_rfl) rfl rfl rfl (fun _ _ _ h => h) (.cons .here rfl .nil) rfl ?_
        refine RunA.no (i := 19) rfl (by kernel_rfl) (by kernel_rfl) rfl rfl rfl (fun _ _ _ h => h) (.cons .here rfl .nil) rfl ?_
        refine RunA.no (i := 20) rfl (by kernel_rfl) (by kernel_rfl) rfl rfl rfl (fun _ _ _ h => h) (.cons .here rfl .nil) rfl ?_
        refine RunA.no (i := 21) rfl (by kernel_rfl) (by kernel_rfl) rfl rfl rfl (fun _ _ _ h => h) (.cons .here rfl .nil) rfl ?_
        refine RunA.no (i := 22) rfl (by kernel_rfl) (by kernel_rfl) rfl rfl rfl (fun _ _ _ h => h) (.cons .here rfl .nil) rfl ?_
        refine RunA.toB (by kernel_rfl) ?_
        refine RunB.one (i := 23) (by kernel_rfl) ?_
        refine RunI.no rfl rfl rfl rfl (RunK.toB ?_)
        refine RunB.one (i := 24) (by kernel_rfl) ?_
        refine RunI.val rfl (Val.pure rfl) rfl rfl rfl (RunK.toB ?_)
        refine RunB.one (i := 25) (by kernel_rfl) ?_
        refine RunI.val rfl (Val.pure rfl) rfl rfl rfl (RunK.toB ?_)
        refine RunB.done (by kernel_rfl) ?_
        exact RunE.join0  (Sub.consE (t := 4) (v := .bool (suitsE h t s)) rfl (by simp_all [suitsE] <;> (intros; omega)) (Sub.skip rfl (Sub.skip rfl (Sub.skip rfl (Sub.skip rfl (Sub.skip rfl (Sub.skip rfl (Sub.skip rfl (Sub.skip rfl (Sub.skip rfl (Sub.skip rfl (Sub.skip rfl (Sub.skip rfl (Sub.skip rfl (Sub.skip rfl (Sub.skip rfl (Sub.skip rfl (Sub.skip rfl (Sub.skip rfl (Sub.skip rfl (Sub.skip rfl (Sub.skip rfl (Sub.skip rfl (Sub.skip rfl (Sub.skip rfl (Sub.skip rfl (Sub.skip rfl (Sub.skip rfl (Sub.skip rfl (Sub.refl _)))))))))))))))))))))))))))))) (.cons .here rfl .nil)
    · intro g19
      have g19' := g19; clear g19
      try simp only [decide_eq_true_eq, decide_eq_false_iff_not, Bool.not_eq_true', Bool.not_eq_false', Bool.and_eq_true, Bool.or_eq_true, Bool.and_eq_false_iff, Bool.or_eq_false_iff, Int.not_le, Int.not_lt] at g19'
      refine RunA.no (i := 7) rfl (by kernel_rfl) (by kernel_rfl) rfl rfl rfl (fun _ _ _ h => h) (.cons .here rfl .nil) rfl ?_
      refine RunA.no (i := 8) rfl (by kernel_rfl) (by kernel_rfl) rfl rfl rfl (fun _ _ _ h => h) (.cons .here rfl .nil) rfl ?_
      refine RunA.no (i := 9) rfl (by kernel_rfl) (by kernel_rfl) rfl rfl rfl (fun _ _ _ h => h) (.cons .here rfl .nil) rfl ?_
      refine RunA.no (i := 10) rfl (by kernel_rfl) (by kernel_rfl) rfl rfl rfl (fun _ _ _ h => h) (.cons .here rfl .nil) rfl ?_
      refine RunA.no (i := 11) rfl (by kernel_rfl) (by kernel_rfl) rfl rfl rfl (fun _ _ _ h => h) (.cons .here rfl .nil) rfl ?_
      refine RunA.one (i := 12) (by kernel_rfl) (by kernel_rfl) ?_
      refine RunI.no rfl rfl rfl rfl (RunK.toA (.cons .here rfl .nil) (.cons .here rfl .nil) rfl ?_)
      refine RunA.val (i := 13) rfl (by kernel_rfl) (by kernel_rfl) (Val.pure rfl) rfl rfl rfl (fun _ _ _ h => h) (.cons .here rfl .nil) rfl ?_
      refine RunA.val (i := 14) rfl (by kernel_rfl) (by kernel_rfl) (Val.pure rfl) rfl rfl rfl (fun _ _ _ h => h) (.cons .here rfl .nil) rfl ?_
      refine RunA.ways (dj := 27) rfl ?_ ?_
      · intro g27
        have g27' := g27; clear g27
        try simp only [decide_eq_true_eq, decide_eq_false_iff_not, Bool.not_eq_true', Bool.not_eq_false', Bool.and_eq_true, Bool.or_eq_true, Bool.and_eq_false_iff, Bool.or_eq_false_iff, Int.not_le, Int.not_lt] at g27'
        refine RunA.val (i := 15) rfl (by kernel_rfl) (by kernel_rfl) (Val.fieldAddr rfl fld_131_1) rfl rfl rfl (fun _ _ _ h => h) (.cons .here rfl .nil) rfl ?_
        refine RunA.val (i := 16) rfl (by kernel_rfl) (by kernel_rfl) (Val.load_one rfl (.head _) ty_129 rfl) rfl rfl rfl (fun _ _ _ h => h) (.cons .here rfl .nil) rfl ?_
        refine RunA.val (i := 17) rfl (by kernel_rfl) (by kernel_rfl) (Val.pure rfl) rfl rfl rfl (fun _ _ _ h => h) (.cons .here rfl .nil) rfl ?_
        refine RunA.val (i := 18) rfl (by kernel_rfl) (by kernel_rfl) (Val.pure rfl) rfl rfl rfl (fun _ _ _ h => h) (.cons .here rfl .nil) rfl ?_
        refine RunA.val (i := 19) rfl (by kernel_rfl) (by kernel_rfl) (Val.lenS rfl und_9) rfl rfl rfl (fun _ _ _ h => h) (.cons .here rfl .nil) rfl ?_
        refine RunA.val (i := 20) rfl (by kernel_rfl) (by kernel_rfl) (Val.pure rfl) rfl rfl rfl (fun _ _ _ h => h) (.cons .here rfl .nil) rfl ?_
        refine RunA.val (i := 21) rfl (by kernel_rfl) (by kernel_rfl) (Val.sub' rfl rfl (IntWalk.i64_in _ ⟨by omega, by omega⟩)) rfl rfl rfl (fun _ _ _ h => h) (.cons .here rfl .nil) rfl ?_
        refine RunA.val (i := 22) rfl (by kernel_rfl) (by kernel_rfl) (Val.strFrom (a := s.length - t.length) rfl (by show some (Value.int _ _) = some (Value.int _ _); congr 2; first | omega | (exfalso; simp at g27')) und_9 (by omega)) rfl rfl rfl (fun _ _ _ h => h) (.cons .here rfl .nil) rfl ?_
        refine RunA.toB (by kernel_rfl) ?_
        refine RunB.one (i := 23) (by kernel_rfl) ?_
        refine RunI.callP rfl (isCall_func rfl ent_128) rfl rfl rfl (fun w hm => whole_calls t _ ht (by simp; omega) w) (RunK.toB ?_)
        refine RunB.one (i := 24) (by kernel_rfl) ?_
        refine RunI.val rfl (Val.pure rfl) rfl rfl rfl (RunK.toB ?_)
        refine RunB.one (i := 25) (by kernel_rfl) ?_
        refine RunI.val rfl (Val.pure rfl) rfl rfl rfl (RunK.toB ?_)
        refine RunB.done (by kernel_rfl) ?_
        exact RunE.join0  (Sub.consE (t := 4) (v := .bool (suitsE h t s)) rfl (by simp_all [suitsE] <;> (intros; omega)) (Sub.skip rfl (Sub.skip rfl (Sub.skip rfl (Sub.skip rfl (Sub.skip rfl (Sub.skip rfl (Sub.skip rfl (Sub.skip rfl (Sub.skip rfl (Sub.skip rfl (Sub.skip rfl (Sub.skip rfl (Sub.skip rfl (Sub.skip rfl (Sub.skip rfl (Sub.skip rfl (Sub.skip rfl (Sub.skip rfl (Sub.skip rfl (Sub.skip rfl (Sub.skip rfl (Sub.skip rfl (Sub.skip rfl (Sub.skip rfl (Sub.skip rfl (Sub.skip rfl (Sub.skip rfl (Sub.skip rfl (Sub.refl _)))))))))))))))))))))))))))))) (.cons .here rfl .nil)
      · intro g27
        have g27' := g27; clear g27
        try simp only [decide_eq_true_eq, decide_eq_false_iff_not, Bool.not_eq_true', Bool.not_eq_false', Bool.and_eq_true, Bool.or_eq_true, Bool.and_eq_false_iff, Bool.or_eq_false_iff, Int.not_le, Int.not_lt] at g27'
        refine RunA.no (i := 15) rfl (by kernel_rfl) (by kernel_rfl) rfl rfl rfl (fun _ _ _ h => h) (.cons .here rfl .nil) rfl ?_
        refine RunA.no (i := 16) rfl (by kernel_rfl) (by kernel_rfl) rfl rfl rfl (fun _ _ _ h => h) (.cons .here rfl .nil) rfl ?_
        refine RunA.no (i := 17) rfl (by kernel_rfl) (by kernel_rfl) rfl rfl rfl (fun _ _ _ h => h) (.cons .here rfl .nil) rfl ?_
        refine RunA.no (i := 18) rfl (by kernel_rfl) (by kernel_rfl) rfl rfl rfl (fun _ _ _ h => h) (.cons .here rfl .nil) rfl ?_
        refine RunA.no (i := 19) rfl (by kernel_rfl) (by kernel_rfl) rfl rfl rfl (fun _ _ _ h => h) (.cons .here rfl .nil) rfl ?_
        refine RunA.no (i := 20) rfl (by kernel_rfl) (by kernel_rfl) rfl rfl rfl (fun _ _ _ h => h) (.cons .here rfl .nil) rfl ?_
        refine RunA.no (i := 21) rfl (by kernel_rfl) (by kernel_rfl) rfl rfl rfl (fun _ _ _ h => h) (.cons .here rfl .nil) rfl ?_
        refine RunA.no (i := 22) rfl (by kernel_rfl) (by kernel_rfl) rfl rfl rfl (fun _ _ _ h => h) (.cons .here rfl .nil) rfl ?_
        refine RunA.toB (by kernel_rfl) ?_
        refine RunB.one (i := 23) (by kernel_rfl) ?_
        refine RunI.no rfl rfl rfl rfl (RunK.toB ?_)
        refine RunB.one (i := 24) (by kernel_rfl) ?_
        refine RunI.val rfl (Val.pure rfl) rfl rfl rfl (RunK.toB ?_)
        refine RunB.one (i := 25) (by kernel_rfl) ?_
        refine RunI.val rfl (Val.pure rfl) rfl rfl rfl (RunK.toB ?_)
        refine RunB.done (by kernel_rfl) ?_
        exact RunE.join0  (Sub.consE (t := 4) (v := .bool (suitsE h t s)) rfl (by simp_all [suitsE] <;> (intros; omega)) (Sub.skip rfl (Sub.skip rfl (Sub.skip rfl (Sub.skip rfl (Sub.skip rfl (Sub.skip rfl (Sub.skip rfl (Sub.skip rfl (Sub.skip rfl (Sub.skip rfl (Sub.skip rfl (Sub.skip rfl (Sub.skip rfl (Sub.skip rfl (Sub.skip rfl (Sub.skip rfl (Sub.skip rfl (Sub.skip rfl (Sub.skip rfl (Sub.skip rfl (Sub.skip rfl (Sub.skip rfl (Sub.skip rfl (Sub.skip rfl (Sub.skip rfl (Sub.skip rfl (Sub.skip rfl (Sub.skip rfl (Sub.refl _)))))))))))))))))))))))))))))) (.cons .here rfl .nil)
  refine J0.out ?_
  refine RunE.next ?_
  refine RunC.ret ?_
  exact RunE.retP (.r1 rfl (.tmp rfl)) (by first | rfl | simp)
theorem indexByte_calls (s : Str) (W : World) : Calls Tryd.prog 107 #[.string (bs s), .int .u8 42] W (Pure (.int .i64 (Lib.indexByte s 42)) W) := by
  refine calls_start Tryd.func107 rfl rfl ?_
  refine RunC.seq ?_
  refine RunC.region ?_
  refine RunL.val (Val.pure rfl) rfl rfl rfl ?_
  refine RunL.nil ?_
  refine RunE.next ?_
  refine RunC.seq ?_
  refine RunC.region ?_
  refine RunL.val (Val.pure rfl) rfl rfl rfl ?_
  refine RunL.val (Val.pure rfl) rfl rfl rfl ?_
  refine RunL.val (Val.ext Tryd.func111 (by kernel_rfl) (by kernel_rfl) (by kernel_rfl) (e := Extern.BytealgIndexByte.indexByte) (by kernel_rfl) rfl (fun w => Lib.run_indexByteString (bs s) 42 w)) rfl rfl rfl ?_
  refine RunL.val (Val.pure rfl) rfl rfl rfl ?_
  refine RunL.nil ?_
  refine RunE.next ?_
  refine RunC.ret ?_
  exact RunE.retP (.r1 rfl (.tmp rfl)) (by first | rfl | simp)
theorem index_calls (s : Str) (W : World) : Calls Tryd.prog 104 #[.string (bs s), .string (bs [42])] W (Pure (.int .i64 (Lib.indexByte s 42)) W) := by
  refine calls_start Tryd.func104 rfl rfl ?_
  refine RunC.seq ?_
  refine RunC.region ?_
  refine RunL.val (Val.pure rfl) rfl rfl rfl ?_
  refine RunL.nil ?_
  refine RunE.next ?_
  refine RunC.seq ?_
  refine RunC.region ?_
  refine RunL.val (Val.pure rfl) rfl rfl rfl ?_
  refine RunL.val (Val.lenS rfl und_9) rfl rfl rfl ?_
  refine RunL.val (Val.pure rfl) rfl rfl rfl ?_
  refine RunL.nil ?_
  refine RunE.next ?_
  refine RunC.seq ?_
  refine RunC.block ?_
  refine RunC.seq ?_
  refine RunC.region ?_
  iterate 3 refine RunL.val (Val.pure rfl) rfl rfl rfl ?_
  refine RunL.orPart (dj := 19) (dp := 23) 4 rfl (fun g19 => by
    have g19' := g19
    try simp only [decide_eq_true_eq, decide_eq_false_iff_not, Bool.not_eq_true', Bool.not_eq_false', Bool.and_eq_true, Bool.or_eq_true, Bool.and_eq_false_iff, Bool.or_eq_false_iff, Int.not_le, Int.not_lt] at g19'
    refine RunL.val (Val.pure rfl) rfl rfl rfl ?_
    refine RunL.val (Val.pure rfl) rfl rfl rfl ?_
    refine RunL.val (Val.eqlStr rfl rfl) rfl rfl rfl ?_
    refine RunL.val (Val.pure rfl) rfl rfl rfl ?_
    exact RunL.segEnd (Sub.cons rfl (Sub.skip rfl (Sub.skip rfl (Sub.skip rfl (Sub.skip rfl (Sub.same rfl (by rw [g19]) (Sub.refl _))))))) (List.Sublist.refl _)
  ) (fun g19 => by
    have g19' := g19
    try simp only [decide_eq_true_eq, decide_eq_false_iff_not, Bool.not_eq_true', Bool.not_eq_false', Bool.and_eq_true, Bool.or_eq_true, Bool.and_eq_false_iff, Bool.or_eq_false_iff, Int.not_le, Int.not_lt] at g19'
    iterate 3 refine RunL.no rfl rfl rfl ?_
    refine RunL.val (Val.pure rfl) rfl rfl rfl ?_
    exact RunL.segEnd (Sub.cons rfl (Sub.skip rfl (Sub.skip rfl (Sub.skip rfl (Sub.skip rfl (Sub.same rfl (by rw [g19]) (Sub.refl _))))))) (List.Sublist.refl _)
  ) ?_
  refine RunL.val (Val.pure rfl) rfl rfl rfl ?_
  refine RunL.nil ?_
  refine RunE.next ?_
  refine RunC.cond rfl ?_ ?_
  · intro c0
    have c0' := c0; clear c0
    try simp only [decide_eq_true_eq, decide_eq_false_iff_not, Bool.not_eq_true', Bool.not_eq_false', Bool.and_eq_true, Bool.or_eq_true, Bool.and_eq_false_iff, Bool.or_eq_false_iff, Int.not_le, Int.not_lt] at c0'
    refine RunC.seq ?_
    refine RunC.region ?_
    refine RunL.val (Val.pure rfl) rfl rfl rfl ?_
    refine RunL.nil ?_
    refine RunE.next ?_
    refine RunC.ret ?_
    refine RunE.block_ret ?_
    refine RunE.pass_ret ?_
    exact RunE.retP (.r1 rfl (.tmp rfl)) (by rcases c0' with h | h; (simp at h); (subst h; rfl))
  · intro c0
    have c0' := c0; clear c0
    try simp only [decide_eq_true_eq, decide_eq_false_iff_not, Bool.not_eq_true', Bool.not_eq_false', Bool.and_eq_true, Bool.or_eq_true, Bool.and_eq_false_iff, Bool.or_eq_false_iff, Int.not_le, Int.not_lt] at c0'
    refine RunC.seq ?_
    refine RunC.region ?_
    iterate 3 refine RunL.val (Val.pure rfl) rfl rfl rfl ?_
    refine RunL.nil ?_
    refine RunE.next ?_
    refine RunC.cond rfl ?_ (fun h => absurd h (by simp))
    intro c1
    clear c1
    refine RunC.seq ?_
    refine RunC.region ?_
    refine RunL.val (Val.pure rfl) rfl rfl rfl ?_
    refine RunL.val (Val.pure rfl) rfl rfl rfl ?_
    refine RunL.val (Val.strIndex rfl rfl und_9 (by decide) (c := 42) rfl) rfl rfl rfl ?_
    refine RunL.callP (isCall_func rfl ent_107) rfl rfl rfl (fun w hm => indexByte_calls s w) ?_
    refine RunL.val (Val.pure rfl) rfl rfl rfl ?_
    refine RunL.nil ?_
    refine RunE.next ?_
    refine RunC.ret ?_
    refine RunE.block_ret ?_
    refine RunE.pass_ret ?_
    exact RunE.retP (.r1 rfl (.tmp rfl)) (by first | rfl | simp)
theorem cut_calls (s : Str) (hl : s.length ≤ 1000000) (W : World) : Calls Tryd.prog 98 #[.string (bs s), .string (bs [42])] W (Pure (match starAt s with | some i => .tuple #[.string (bs (s.take i)), .string (bs (s.drop (i + 1))), .bool true] | none => .tuple #[.string (bs s), .string (bs []), .bool false]) W) := by
  have hi := starAt_idx s
  cases h : starAt s with
  | some i =>
    rw [h] at hi
    simp only at hi
    have hlt := starAt_lt h
    refine calls_start Tryd.func98 rfl rfl ?_
    refine RunC.seq ?_
    refine RunC.region ?_
    iterate 3 refine RunL.val (Val.pure rfl) rfl rfl rfl ?_
    refine RunL.nil ?_
    refine RunE.next ?_
    refine RunC.seq ?_
    refine RunC.seq ?_
    refine RunC.region ?_
    refine RunL.val (Val.pure rfl) rfl rfl rfl ?_
    refine RunL.val (Val.pure rfl) rfl rfl rfl ?_
    refine RunL.callP (isCall_func rfl ent_104) rfl rfl rfl (fun w hm => (by have h9 := index_calls s w; rw [hi] at h9; exact h9)) ?_
    refine RunL.val (Val.pure rfl) rfl rfl rfl ?_
    refine RunL.nil ?_
    refine RunE.next ?_
    refine RunC.seq ?_
    refine RunC.region ?_
    refine RunL.val (Val.pure rfl) rfl rfl rfl ?_
    refine RunL.val (Val.pure rfl) rfl rfl rfl ?_
    refine RunL.nil ?_
    refine RunE.next ?_
    refine RunC.cond rfl ?_ (fun h => absurd h (by simp))
    intro c0
    clear c0
    refine RunC.seq ?_
    refine RunC.draw 10 fol_ .nil ?_
    refine RunA.val (i := 0) rfl (by kernel_rfl) (by kernel_rfl) (Val.pure rfl) rfl rfl rfl (fun _ _ _ h => h) .nil rfl ?_
    refine RunA.val (i := 1) rfl (by kernel_rfl) (by kernel_rfl) (Val.pure rfl) rfl rfl rfl (fun _ _ _ h => h) .nil rfl ?_
    refine RunA.val (i := 2) rfl (by kernel_rfl) (by kernel_rfl) (Val.strTo rfl rfl und_9 (by omega)) rfl rfl rfl (fun _ _ _ h => h) .nil rfl ?_
    refine RunA.val (i := 3) rfl (by kernel_rfl) (by kernel_rfl) (Val.pure rfl) rfl rfl rfl (fun _ _ _ h => h) .nil rfl ?_
    refine RunA.val (i := 4) rfl (by kernel_rfl) (by kernel_rfl) (Val.pure rfl) rfl rfl rfl (fun _ _ _ h => h) .nil rfl ?_
    refine RunA.val (i := 5) rfl (by kernel_rfl) (by kernel_rfl) (Val.pure rfl) rfl rfl rfl (fun _ _ _ h => h) .nil rfl ?_
    refine RunA.val (i := 6) rfl (by kernel_rfl) (by kernel_rfl) (Val.lenS rfl und_9) rfl rfl rfl (fun _ _ _ h => h) .nil rfl ?_
    refine RunA.val (i := 7) rfl (by kernel_rfl) (by kernel_rfl) (Val.addN (a := i) (b := 1) (i + 1) rfl rfl rfl (i64_inN (by omega))) rfl rfl rfl (fun _ _ _ h => h) .nil rfl ?_
    refine RunA.val (i := 8) rfl (by kernel_rfl) (by kernel_rfl) (Val.strFrom rfl rfl und_9 (by omega)) rfl rfl rfl (fun _ _ _ h => h) .nil rfl ?_
    refine RunA.val (i := 9) rfl (by kernel_rfl) (by kernel_rfl) (Val.pure rfl) rfl rfl rfl (fun _ _ _ h => h) .nil rfl ?_
    refine RunA.toB (by kernel_rfl) ?_
    refine RunB.one (i := 10) (by kernel_rfl) ?_
    refine RunI.val rfl (Val.pure rfl) rfl rfl rfl (RunK.toB ?_)
    refine RunB.one (i := 11) (by kernel_rfl) ?_
    refine RunI.val rfl (Val.pure rfl) rfl rfl rfl (RunK.toB ?_)
    refine RunB.done (by kernel_rfl) ?_
    refine RunE.next ?_
    refine RunC.ret ?_
    refine RunE.pass_ret ?_
    exact RunE.retP (.r3 rfl (.tmp rfl) (.tmp rfl) (.tmp rfl)) (by first | rfl | simp)
  | none =>
    rw [h] at hi
    simp only at hi
    refine calls_start Tryd.func98 rfl rfl ?_
    refine RunC.seq ?_
    refine RunC.region ?_
    iterate 3 refine RunL.val (Val.pure rfl) rfl rfl rfl ?_
    refine RunL.nil ?_
    refine RunE.next ?_
    refine RunC.seq ?_
    refine RunC.seq ?_
    refine RunC.region ?_
    refine RunL.val (Val.pure rfl) rfl rfl rfl ?_
    refine RunL.val (Val.pure rfl) rfl rfl rfl ?_
    refine RunL.callP (isCall_func rfl ent_104) rfl rfl rfl (fun w hm => (by have h9 := index_calls s w; rw [hi] at h9; exact h9)) ?_
    refine RunL.val (Val.pure rfl) rfl rfl rfl ?_
    refine RunL.nil ?_
    refine RunE.next ?_
    refine RunC.seq ?_
    refine RunC.region ?_
    refine RunL.val (Val.pure rfl) rfl rfl rfl ?_
    refine RunL.val (Val.pure rfl) rfl rfl rfl ?_
    refine RunL.nil ?_
    refine RunE.next ?_
    refine RunC.cond rfl (fun h => absurd h (by simp)) ?_
    intro c0
    clear c0
    refine RunC.skip ?_
    refine RunE.next ?_
    refine RunC.seq ?_
    refine RunC.region ?_
    iterate 4 refine RunL.val (Val.pure rfl) rfl rfl rfl ?_
    refine RunL.nil ?_
    refine RunE.next ?_
    refine RunC.ret ?_
    exact RunE.retP (.r3 rfl (.tmp rfl) (.tmp rfl) (.tmp rfl)) (by first | rfl | simp)
theorem cutS_calls (s : Str) (hl : s.length ≤ 1000000) (W : World) : Calls Tryd.prog 93 #[.string (bs s), .string (bs [42])] W (Pure (match starAt s with | some i => .tuple #[.string (bs (s.take i)), .string (bs (s.drop (i + 1))), .bool true] | none => .tuple #[.string (bs s), .string (bs []), .bool false]) W) := by
  have hc := fun w => cut_calls s hl w
  cases h : starAt s with
  | some i =>
    simp only [h] at hc
    refine calls_start Tryd.func93 rfl rfl ?_
    refine RunC.seq ?_
    refine RunC.region ?_
    iterate 3 refine RunL.val (Val.pure rfl) rfl rfl rfl ?_
    refine RunL.nil ?_
    refine RunE.next ?_
    refine RunC.seq ?_
    refine RunC.region ?_
    refine RunL.val (Val.pure rfl) rfl rfl rfl ?_
    refine RunL.val (Val.pure rfl) rfl rfl rfl ?_
    refine RunL.callP (isCall_func rfl ent_98) rfl rfl rfl (fun w hm => hc w) ?_
    iterate 6 refine RunL.val (Val.pure rfl) rfl rfl rfl ?_
    refine RunL.nil ?_
    refine RunE.next ?_
    refine RunC.ret ?_
    exact RunE.retP (.r3 rfl (.tmp rfl) (.tmp rfl) (.tmp rfl)) (by first | rfl | simp)
  | none =>
    simp only [h] at hc
    refine calls_start Tryd.func93 rfl rfl ?_
    refine RunC.seq ?_
    refine RunC.region ?_
    iterate 3 refine RunL.val (Val.pure rfl) rfl rfl rfl ?_
    refine RunL.nil ?_
    refine RunE.next ?_
    refine RunC.seq ?_
    refine RunC.region ?_
    refine RunL.val (Val.pure rfl) rfl rfl rfl ?_
    refine RunL.val (Val.pure rfl) rfl rfl rfl ?_
    refine RunL.callP (isCall_func rfl ent_98) rfl rfl rfl (fun w hm => hc w) ?_
    iterate 6 refine RunL.val (Val.pure rfl) rfl rfl rfl ?_
    refine RunL.nil ?_
    refine RunE.next ?_
    refine RunC.ret ?_
    exact RunE.retP (.r3 rfl (.tmp rfl) (.tmp rfl) (.tmp rfl)) (by first | rfl | simp)
theorem pieceOf_calls (s : Str) (hl : s.length ≤ 1000000) (W : World) : Calls Tryd.prog 81 #[.string (bs s)] W (Pure (pieceV s) W) := by
  have hc := fun w => cutS_calls s hl w
  cases h : starAt s with
  | some i =>
    simp only [h] at hc
    refine calls_start Tryd.func81 rfl rfl ?_
    refine RunC.seq ?_
    refine RunC.region ?_
    refine RunL.val (Val.pure rfl) rfl rfl rfl ?_
    refine RunL.nil ?_
    refine RunE.next ?_
    refine RunC.seq ?_
    refine RunC.seq ?_
    refine RunC.region ?_
    refine RunL.val (Val.pure rfl) rfl rfl rfl ?_
    refine RunL.callP (isCall_func rfl ent_93) rfl rfl rfl (fun w hm => hc w) ?_
    iterate 7 refine RunL.val (Val.pure rfl) rfl rfl rfl ?_
    refine RunL.nil ?_
    refine RunE.next ?_
    refine RunC.seq ?_
    refine RunC.region ?_
    refine RunL.val (Val.pure rfl) rfl rfl rfl ?_
    refine RunL.nil ?_
    refine RunE.next ?_
    refine RunC.cond rfl ?_ (fun h => absurd h (by simp))
    intro c0
    clear c0
    refine RunC.seq ?_
    refine RunC.region ?_
    refine RunL.val (Val.pure rfl) rfl rfl rfl ?_
    refine RunL.val (Val.pure rfl) rfl rfl rfl ?_
    refine RunL.val (Val.build (parts := [(0, .tmp 13), (1, .tmp 14)]) rfl zero_131 places_131 rfl) rfl rfl rfl ?_
    refine RunL.val (Val.makeInterface rfl noif_131) rfl rfl rfl ?_
    refine RunL.val (Val.pure rfl) rfl rfl rfl ?_
    refine RunL.nil ?_
    refine RunE.next ?_
    refine RunC.ret ?_
    refine RunE.pass_ret ?_
    exact RunE.retP (.r1 rfl (.tmp rfl)) (by simp [pieceV, pieceT, pieceP, h])
  | none =>
    simp only [h] at hc
    refine calls_start Tryd.func81 rfl rfl ?_
    refine RunC.seq ?_
    refine RunC.region ?_
    refine RunL.val (Val.pure rfl) rfl rfl rfl ?_
    refine RunL.nil ?_
    refine RunE.next ?_
    refine RunC.seq ?_
    refine RunC.seq ?_
    refine RunC.region ?_
    refine RunL.val (Val.pure rfl) rfl rfl rfl ?_
    refine RunL.callP (isCall_func rfl ent_93) rfl rfl rfl (fun w hm => hc w) ?_
    iterate 7 refine RunL.val (Val.pure rfl) rfl rfl rfl ?_
    refine RunL.nil ?_
    refine RunE.next ?_
    refine RunC.seq ?_
    refine RunC.region ?_
    refine RunL.val (Val.pure rfl) rfl rfl rfl ?_
    refine RunL.nil ?_
    refine RunE.next ?_
    refine RunC.cond rfl (fun h => absurd h (by simp)) ?_
    intro c0
    clear c0
    refine RunC.skip ?_
    refine RunE.next ?_
    refine RunC.seq ?_
    refine RunC.region ?_
    refine RunL.val (Val.pure rfl) rfl rfl rfl ?_
    refine RunL.val (Val.makeInterface rfl noif_129) rfl rfl rfl ?_
    refine RunL.val (Val.pure rfl) rfl rfl rfl ?_
    refine RunL.nil ?_
    refine RunE.next ?_
    refine RunC.ret ?_
    exact RunE.retP (.r1 rfl (.tmp rfl)) (by simp [pieceV, pieceT, pieceP, h])
end Go.Proofs.YtlhdalcipflblaaDoor
