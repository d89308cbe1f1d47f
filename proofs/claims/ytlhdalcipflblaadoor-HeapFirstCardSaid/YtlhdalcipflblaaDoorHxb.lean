/- Walks of the laws of layer 10: HeapFirst where there is a way. -/
import Derived.Test.YtlhdalcipflblaaDoorHx
import Derived.Test.YtlhdalcipflblaaDoorHyH
set_option linter.unusedSimpArgs false
set_option linter.unusedVariables false
namespace Go.Proofs.YtlhdalcipflblaaDoor
open Go Go.Eng Go.Hp Go.Pw1

set_option maxHeartbeats 1000000 in
theorem hfirst_ok (m : MxA) (ys : Str) (q : Option Addr) (b o cap : Nat) (W : World) (hM : MOk W m) (hS : Sl W q b o 1 (bytesV ys)) (hf : farX m.pl = false) (hy : 0 < ys.length) (hyl : ys.length ≤ 9223372036854775807) (hX : mixedX m.pl = true) (h0 : 0 < cntX m.pl) : Calls Tryd.prog 8 #[m.v, .slice q ys.length cap] W (Pure (.bool true) W) := by
  have hsm := far_sm hf
  obtain ⟨h4, h8, h12⟩ := mixed_ok hX
  have hfl := fs_len m
  have hall := fs12 hX
  have hw : waysE m.pl = 0 := by unfold waysE; rw [if_pos hX, if_neg (by omega)]
  have e1 : CountX m.pl = ((cntX m.pl : Int), 0) := by unfold CountX; rw [if_pos hX]
  obtain ⟨s, e, hI, hW⟩ := why_is hX
  have he : e = 0 := (why_cnt hX hI).2 h0
  have hs0 : s = 0 := by rcases hI.se with ⟨h2, _⟩ | ⟨_, h2, _⟩ <;> omega
  subst he
  subst hs0
  have hc0 : (0 : Int) < (cntX m.pl : Int) := by omega
  have hway : Hp.Way (esX m).length (fsX m.pl) 0 (firstL (esX m).length (fsX m.pl) 0) := first_way h0
  obtain ⟨L, hL⟩ : ∃ L, firstL (esX m).length (fsX m.pl) 0 = L := ⟨_, rfl⟩
  rw [hL] at hway
  have hLl : L.length = m.cards.length := by rw [hway.len, hfl]
  have hLi : (natI L).length = m.cards.length := by rw [natI_len, hLl]
  have hfirst : ∀ (w : World), MOk w m → Calls Tryd.prog 23 #[m.v] w (News (fun z : IO (natI L) => .tuple #[.slice (ownQ z.1) m.cards.length (ownC z.1), .int .i64 0]) (fun z => ownB 3 z.1 (intsW (natI L)).flatten ++ []) w) := fun w hM => by
    have h9 := first_ok m hsm w hM hw
    rw [hL] at h9
    exact h9
  refine calls_start Tryd.func8 rfl rfl ?_
  refine RunC.seq ?_
  refine RunC.region ?_
  refine RunL.new (New.box rfl) rfl rfl rfl (fun b2 => ?_)
  refine RunL.val (Val.pure rfl) rfl rfl rfl ?_
  refine RunL.nil ?_
  refine RunE.next ?_
  refine RunC.seq ?_
  refine RunC.seq ?_
  refine RunC.region ?_
  refine RunL.val (Val.load_agg rfl (.head _) ty_25 rfl) rfl rfl rfl ?_
  refine RunL.callP (isCall_func rfl ent_12) rfl rfl rfl (fun w hm => far_calls m w (hM.mono0 hm)) ?_
  refine RunL.val (Val.pure rfl) rfl rfl rfl ?_
  refine RunL.orPart (dj := 24) (dp := 28) 4 rfl (fun g24 => by
    have g24' := g24
    try simp only [decide_eq_true_eq, decide_eq_false_iff_not, Bool.not_eq_true', Bool.not_eq_false', Bool.and_eq_true, Bool.or_eq_true, Bool.and_eq_false_iff, Bool.or_eq_false_iff, Int.not_le, Int.not_lt] at g24'
    refine RunL.val (Val.pure rfl) rfl rfl rfl ?_
    refine RunL.val (Val.len_sl rfl sl_47) rfl rfl rfl ?_
    refine RunL.val (Val.pure rfl) rfl rfl rfl ?_
    refine RunL.val (Val.pure rfl) rfl rfl rfl ?_
    exact RunL.segEnd (Sub.cons rfl (Sub.skip rfl (Sub.skip rfl (Sub.skip rfl (Sub.skip rfl (Sub.same rfl (by rw [g24]) (Sub.refl _))))))) (List.Sublist.refl _)
  ) (fun g24 => by
    have g24' := g24
    try simp only [decide_eq_true_eq, decide_eq_false_iff_not, Bool.not_eq_true', Bool.not_eq_false', Bool.and_eq_true, Bool.or_eq_true, Bool.and_eq_false_iff, Bool.or_eq_false_iff, Int.not_le, Int.not_lt] at g24'
    iterate 3 refine RunL.no rfl rfl rfl ?_
    refine RunL.val (Val.pure rfl) rfl rfl rfl ?_
    exact RunL.segEnd (Sub.cons rfl (Sub.skip rfl (Sub.skip rfl (Sub.skip rfl (Sub.skip rfl (Sub.same rfl (by rw [g24]) (Sub.refl _))))))) (List.Sublist.refl _)
  ) ?_
  refine RunL.nil ?_
  refine RunE.next ?_
  refine RunC.cond rfl (fun h => absurd h (by simp [hf, List.length_pos_iff.1 hy])) ?_
  intro c0
  clear c0
  refine RunC.skip ?_
  refine RunE.next ?_
  refine RunC.seq ?_
  refine RunC.region ?_
  refine RunL.val (Val.load_agg rfl (.head _) ty_25 rfl) rfl rfl rfl ?_
  refine RunL.callNT (isCall_func rfl ent_23) rfl rfl rfl (fun w hm => hfirst w (hM.mono0 hm)) (fun z32 => ?_)
  obtain ⟨x32, hx32⟩ := z32
  dsimp only
  iterate 5 refine RunL.val (Val.pure rfl) rfl rfl rfl ?_
  refine RunL.nil ?_
  refine RunE.next ?_
  refine RunC.seq ?_
  refine RunC.region ?_
  refine RunL.val (Val.load_agg rfl (.head _) ty_25 rfl) rfl rfl rfl ?_
  refine RunL.callP (isCall_func rfl ent_19) rfl rfl rfl (fun w hm => (by have h9 := counth_calls m hsm w (hM.mono0 hm); rw [e1] at h9; exact h9)) ?_
  iterate 5 refine RunL.val (Val.pure rfl) rfl rfl rfl ?_
  refine RunL.nil ?_
  refine RunE.next ?_
  refine RunC.seq ?_
  refine RunC.region ?_
  refine RunL.val (Val.load_agg rfl (.head _) ty_25 rfl) rfl rfl rfl ?_
  refine RunL.callP (isCall_func rfl ent_16) rfl rfl rfl (fun w hm => (by have h9 := why_calls m hsm w (hM.mono0 hm); rw [hW] at h9; exact h9)) ?_
  iterate 5 refine RunL.val (Val.pure rfl) rfl rfl rfl ?_
  refine RunL.nil ?_
  refine RunE.next ?_
  refine RunC.seq ?_
  refine RunC.seq ?_
  refine RunC.region ?_
  iterate 3 refine RunL.val (Val.pure rfl) rfl rfl rfl ?_
  refine RunL.orPart (dj := 47) (dp := 51) 4 rfl (fun g47 => by
    have g47' := g47
    try simp only [decide_eq_true_eq, decide_eq_false_iff_not, Bool.not_eq_true', Bool.not_eq_false', Bool.and_eq_true, Bool.or_eq_true, Bool.and_eq_false_iff, Bool.or_eq_false_iff, Int.not_le, Int.not_lt] at g47'
    refine RunL.val (Val.load_agg rfl (.head _) ty_25 rfl) rfl rfl rfl ?_
    refine RunL.callP (isCall_func rfl ent_33) rfl rfl rfl (fun w hm => rMixed_calls m hsm w (hM.mono0 hm)) ?_
    refine RunL.val (Val.pure rfl) rfl rfl rfl ?_
    refine RunL.val (Val.pure rfl) rfl rfl rfl ?_
    exact RunL.segEnd (Sub.cons rfl (Sub.skip rfl (Sub.skip rfl (Sub.skip rfl (Sub.skip rfl (Sub.same rfl (by rw [g47]) (Sub.refl _))))))) (List.Sublist.refl _)
  ) (fun g47 => by
    have g47' := g47
    try simp only [decide_eq_true_eq, decide_eq_false_iff_not, Bool.not_eq_true', Bool.not_eq_false', Bool.and_eq_true, Bool.or_eq_true, Bool.and_eq_false_iff, Bool.or_eq_false_iff, Int.not_le, Int.not_lt] at g47'
    iterate 3 refine RunL.no rfl rfl rfl ?_
    refine RunL.val (Val.pure rfl) rfl rfl rfl ?_
    exact RunL.segEnd (Sub.cons rfl (Sub.skip rfl (Sub.skip rfl (Sub.skip rfl (Sub.skip rfl (Sub.same rfl (by rw [g47]) (Sub.refl _))))))) (List.Sublist.refl _)
  ) ?_
  refine RunL.nil ?_
  refine RunE.next ?_
  refine RunC.cond rfl (fun h => absurd h (by simp [hX])) ?_
  intro c1
  clear c1
  refine RunC.skip ?_
  refine RunE.next ?_
  refine RunC.seq ?_
  refine RunC.seq ?_
  refine RunC.region ?_
  iterate 3 refine RunL.val (Val.pure rfl) rfl rfl rfl ?_
  refine RunL.orPart (dj := 87) (dp := 93) 6 rfl (fun g87 => by
    have g87' := g87
    try simp only [decide_eq_true_eq, decide_eq_false_iff_not, Bool.not_eq_true', Bool.not_eq_false', Bool.and_eq_true, Bool.or_eq_true, Bool.and_eq_false_iff, Bool.or_eq_false_iff, Int.not_le, Int.not_lt] at g87'
    iterate 4 refine RunL.val (Val.pure rfl) rfl rfl rfl ?_
    refine RunL.val (Val.neq_bool rfl rfl boolB_4) rfl rfl rfl ?_
    refine RunL.val (Val.pure rfl) rfl rfl rfl ?_
    exact RunL.segEnd (Sub.cons rfl (Sub.skip rfl (Sub.skip rfl (Sub.skip rfl (Sub.skip rfl (Sub.skip rfl (Sub.skip rfl (Sub.same rfl (by rw [g87]) (Sub.refl _))))))))) (List.Sublist.refl _)
  ) (fun g87 => by
    have g87' := g87
    try simp only [decide_eq_true_eq, decide_eq_false_iff_not, Bool.not_eq_true', Bool.not_eq_false', Bool.and_eq_true, Bool.or_eq_true, Bool.and_eq_false_iff, Bool.or_eq_false_iff, Int.not_le, Int.not_lt] at g87'
    iterate 5 refine RunL.no rfl rfl rfl ?_
    refine RunL.val (Val.pure rfl) rfl rfl rfl ?_
    exact RunL.segEnd (Sub.cons rfl (Sub.skip rfl (Sub.skip rfl (Sub.skip rfl (Sub.skip rfl (Sub.skip rfl (Sub.skip rfl (Sub.same rfl (by rw [g87]) (Sub.refl _))))))))) (List.Sublist.refl _)
  ) ?_
  refine RunL.val (Val.pure rfl) rfl rfl rfl ?_
  refine RunL.orPart (dj := 94) (dp := 100) 6 rfl (fun g94 => by
    have g94' := g94
    try simp only [decide_eq_true_eq, decide_eq_false_iff_not, Bool.not_eq_true', Bool.not_eq_false', Bool.and_eq_true, Bool.or_eq_true, Bool.and_eq_false_iff, Bool.or_eq_false_iff, Int.not_le, Int.not_lt] at g94'
    iterate 4 refine RunL.val (Val.pure rfl) rfl rfl rfl ?_
    refine RunL.val (Val.neq_bool rfl rfl boolB_4) rfl rfl rfl ?_
    refine RunL.val (Val.pure rfl) rfl rfl rfl ?_
    exact RunL.segEnd (Sub.cons rfl (Sub.skip rfl (Sub.skip rfl (Sub.skip rfl (Sub.skip rfl (Sub.skip rfl (Sub.skip rfl (Sub.same rfl (by rw [g94]) (Sub.refl _))))))))) (List.Sublist.refl _)
  ) (fun g94 => by
    have g94' := g94
    try simp only [decide_eq_true_eq, decide_eq_false_iff_not, Bool.not_eq_true', Bool.not_eq_false', Bool.and_eq_true, Bool.or_eq_true, Bool.and_eq_false_iff, Bool.or_eq_false_iff, Int.not_le, Int.not_lt] at g94'
    iterate 5 refine RunL.no rfl rfl rfl ?_
    refine RunL.val (Val.pure rfl) rfl rfl rfl ?_
    exact RunL.segEnd (Sub.cons rfl (Sub.skip rfl (Sub.skip rfl (Sub.skip rfl (Sub.skip rfl (Sub.skip rfl (Sub.skip rfl (Sub.same rfl (by rw [g94]) (Sub.refl _))))))))) (List.Sublist.refl _)
  ) ?_
  refine RunL.val (Val.pure rfl) rfl rfl rfl ?_
  refine RunL.orPart (dj := 101) (dp := 113) 12 rfl (fun g101 => by
    have g101' := g101
    try simp only [decide_eq_true_eq, decide_eq_false_iff_not, Bool.not_eq_true', Bool.not_eq_false', Bool.and_eq_true, Bool.or_eq_true, Bool.and_eq_false_iff, Bool.or_eq_false_iff, Int.not_le, Int.not_lt] at g101'
    iterate 3 refine RunL.val (Val.pure rfl) rfl rfl rfl ?_
    refine RunL.andPart (dj := 104) (dp := 112) 8 rfl (fun g104 => by
      have g104' := g104
      try simp only [decide_eq_true_eq, decide_eq_false_iff_not, Bool.not_eq_true', Bool.not_eq_false', Bool.and_eq_true, Bool.or_eq_true, Bool.and_eq_false_iff, Bool.or_eq_false_iff, Int.not_le, Int.not_lt] at g104'
      iterate 3 refine RunL.val (Val.pure rfl) rfl rfl rfl ?_
      refine RunL.orPart (dj := 107) (dp := 111) 4 rfl (fun g107 => by
        have g107' := g107
        try simp only [decide_eq_true_eq, decide_eq_false_iff_not, Bool.not_eq_true', Bool.not_eq_false', Bool.and_eq_true, Bool.or_eq_true, Bool.and_eq_false_iff, Bool.or_eq_false_iff, Int.not_le, Int.not_lt] at g107'
        refine RunL.val (Val.pure rfl) rfl rfl rfl ?_
        refine RunL.val (Val.len_sl rfl sl_34) rfl rfl rfl ?_
        refine RunL.val (Val.pure rfl) rfl rfl rfl ?_
        refine RunL.val (Val.pure rfl) rfl rfl rfl ?_
        exact RunL.segEnd (Sub.cons rfl (Sub.skip rfl (Sub.skip rfl (Sub.skip rfl (Sub.skip rfl (Sub.same rfl (by rw [g107]) (Sub.refl _))))))) (List.Sublist.refl _)
      ) (fun g107 => by
        have g107' := g107
        try simp only [decide_eq_true_eq, decide_eq_false_iff_not, Bool.not_eq_true', Bool.not_eq_false', Bool.and_eq_true, Bool.or_eq_true, Bool.and_eq_false_iff, Bool.or_eq_false_iff, Int.not_le, Int.not_lt] at g107'
        iterate 3 refine RunL.no rfl rfl rfl ?_
        refine RunL.val (Val.pure rfl) rfl rfl rfl ?_
        exact RunL.segEnd (Sub.cons rfl (Sub.skip rfl (Sub.skip rfl (Sub.skip rfl (Sub.skip rfl (Sub.same rfl (by rw [g107]) (Sub.refl _))))))) (List.Sublist.refl _)
      ) ?_
      refine RunL.val (Val.pure rfl) rfl rfl rfl ?_
      exact RunL.segEnd (Sub.cons rfl (Sub.skip rfl (Sub.skip rfl (Sub.skip rfl (Sub.skip rfl (Sub.skip rfl (Sub.same rfl (by rw [g104]) (Sub.refl _)))))))) (List.Sublist.refl _)
    ) (fun g104 => by
      have g104' := g104
      try simp only [decide_eq_true_eq, decide_eq_false_iff_not, Bool.not_eq_true', Bool.not_eq_false', Bool.and_eq_true, Bool.or_eq_true, Bool.and_eq_false_iff, Bool.or_eq_false_iff, Int.not_le, Int.not_lt] at g104'
      iterate 7 refine RunL.no rfl rfl rfl ?_
      refine RunL.val (Val.pure rfl) rfl rfl rfl ?_
      exact RunL.segEnd (Sub.cons rfl (Sub.skip rfl (Sub.skip rfl (Sub.skip rfl (Sub.skip rfl (Sub.skip rfl (Sub.skip rfl (Sub.skip rfl (Sub.skip rfl (Sub.same rfl (by rw [g104]) (Sub.refl _))))))))))) (List.Sublist.refl _)
    ) ?_
    refine RunL.val (Val.pure rfl) rfl rfl rfl ?_
    exact RunL.segEnd (Sub.cons rfl (Sub.skip rfl (Sub.skip rfl (Sub.skip rfl (Sub.skip rfl (Sub.skip rfl (Sub.same rfl (by rw [g101]) (Sub.refl _)))))))) (List.Sublist.refl _)
  ) (fun g101 => by
    have g101' := g101
    try simp only [decide_eq_true_eq, decide_eq_false_iff_not, Bool.not_eq_true', Bool.not_eq_false', Bool.and_eq_true, Bool.or_eq_true, Bool.and_eq_false_iff, Bool.or_eq_false_iff, Int.not_le, Int.not_lt] at g101'
    iterate 11 refine RunL.no rfl rfl rfl ?_
    refine RunL.val (Val.pure rfl) rfl rfl rfl ?_
    exact RunL.segEnd (Sub.cons rfl (Sub.skip rfl (Sub.skip rfl (Sub.skip rfl (Sub.skip rfl (Sub.skip rfl (Sub.skip rfl (Sub.skip rfl (Sub.skip rfl (Sub.skip rfl (Sub.skip rfl (Sub.skip rfl (Sub.skip rfl (Sub.same rfl (by rw [g101]) (Sub.refl _))))))))))))))) (List.Sublist.refl _)
  ) ?_
  refine RunL.val (Val.pure rfl) rfl rfl rfl ?_
  refine RunL.orPart (dj := 114) (dp := 125) 11 rfl (fun g114 => by
    have g114' := g114
    try simp only [decide_eq_true_eq, decide_eq_false_iff_not, Bool.not_eq_true', Bool.not_eq_false', Bool.and_eq_true, Bool.or_eq_true, Bool.and_eq_false_iff, Bool.or_eq_false_iff, Int.not_le, Int.not_lt] at g114'
    iterate 3 refine RunL.val (Val.pure rfl) rfl rfl rfl ?_
    refine RunL.andPart (dj := 117) (dp := 124) 7 rfl (fun g117 => by
      have g117' := g117
      try simp only [decide_eq_true_eq, decide_eq_false_iff_not, Bool.not_eq_true', Bool.not_eq_false', Bool.and_eq_true, Bool.or_eq_true, Bool.and_eq_false_iff, Bool.or_eq_false_iff, Int.not_le, Int.not_lt] at g117'
      refine RunL.val (Val.pure rfl) rfl rfl rfl ?_
      refine RunL.val (Val.len_sl rfl sl_34) rfl rfl rfl ?_
      refine RunL.val (Val.fieldAddr rfl fld_25_1) rfl rfl rfl ?_
      refine RunL.val (Val.load_one rfl (.head _) ty_23 rfl) rfl rfl rfl ?_
      refine RunL.val (Val.len_sl rfl sl_23) rfl rfl rfl ?_
      refine RunL.val (Val.pure rfl) rfl rfl rfl ?_
      refine RunL.val (Val.pure rfl) rfl rfl rfl ?_
      exact RunL.segEnd (Sub.cons rfl (Sub.skip rfl (Sub.skip rfl (Sub.skip rfl (Sub.skip rfl (Sub.skip rfl (Sub.skip rfl (Sub.skip rfl (Sub.same rfl (by rw [g117]) (Sub.refl _)))))))))) (List.Sublist.refl _)
    ) (fun g117 => by
      have g117' := g117
      try simp only [decide_eq_true_eq, decide_eq_false_iff_not, Bool.not_eq_true', Bool.not_eq_false', Bool.and_eq_true, Bool.or_eq_true, Bool.and_eq_false_iff, Bool.or_eq_false_iff, Int.not_le, Int.not_lt] at g117'
      iterate 6 refine RunL.no rfl rfl rfl ?_
      refine RunL.val (Val.pure rfl) rfl rfl rfl ?_
      exact RunL.segEnd (Sub.cons rfl (Sub.skip rfl (Sub.skip rfl (Sub.skip rfl (Sub.skip rfl (Sub.skip rfl (Sub.skip rfl (Sub.skip rfl (Sub.same rfl (by rw [g117]) (Sub.refl _)))))))))) (List.Sublist.refl _)
    ) ?_
    refine RunL.val (Val.pure rfl) rfl rfl rfl ?_
    exact RunL.segEnd (Sub.cons rfl (Sub.skip rfl (Sub.skip rfl (Sub.skip rfl (Sub.skip rfl (Sub.skip rfl (Sub.same rfl (by rw [g114]) (Sub.refl _)))))))) (List.Sublist.refl _)
  ) (fun g114 => by
    have g114' := g114
    try simp only [decide_eq_true_eq, decide_eq_false_iff_not, Bool.not_eq_true', Bool.not_eq_false', Bool.and_eq_true, Bool.or_eq_true, Bool.and_eq_false_iff, Bool.or_eq_false_iff, Int.not_le, Int.not_lt] at g114'
    iterate 10 refine RunL.no rfl rfl rfl ?_
    refine RunL.val (Val.pure rfl) rfl rfl rfl ?_
    exact RunL.segEnd (Sub.cons rfl (Sub.skip rfl (Sub.skip rfl (Sub.skip rfl (Sub.skip rfl (Sub.skip rfl (Sub.skip rfl (Sub.skip rfl (Sub.skip rfl (Sub.skip rfl (Sub.skip rfl (Sub.skip rfl (Sub.same rfl (by rw [g114]) (Sub.refl _)))))))))))))) (List.Sublist.refl _)
  ) ?_
  refine RunL.nil ?_
  refine RunE.next ?_
  refine RunC.cond rfl (fun h => absurd h (by simp [hc0]; omega)) ?_
  intro c2
  clear c2
  refine RunC.skip ?_
  refine RunE.next ?_
  refine RunC.seq ?_
  refine RunC.region ?_
  refine RunL.val (Val.load_agg rfl (.head _) ty_25 rfl) rfl rfl rfl ?_
  refine RunL.callNA [(b2, _)] _ rfl (isCall_func rfl ent_34) rfl rfl rfl (fun w hm => rEntries_calls m hsm hX w (hM.mono0 hm)) (fun z127 => ?_)
  obtain ⟨x127, hx127⟩ := z127
  dsimp only
  refine RunL.val (Val.len_sl rfl sl_53) rfl rfl rfl ?_
  refine RunL.val (Val.pure rfl) rfl rfl rfl ?_
  refine RunL.nil ?_
  refine RunE.next ?_
  refine RunC.seq ?_
  refine RunC.region ?_
  refine RunL.new (New.buildSlice0 sl_34) rfl rfl rfl (fun b129 => ?_)
  iterate 3 refine RunL.val (Val.pure rfl) rfl rfl rfl ?_
  refine RunL.nil ?_
  refine RunE.next ?_
  refine RunC.seq ?_
  refine RunC.seq ?_
  refine RunC.region ?_
  refine RunL.val (Val.fieldAddr rfl fld_25_1) rfl rfl rfl ?_
  refine RunL.val (Val.load_one rfl (.tail _ (.head _)) ty_23 rfl) rfl rfl rfl ?_
  refine RunL.val (Val.len_sl rfl sl_23) rfl rfl rfl ?_
  refine RunL.val (Val.pure rfl) rfl rfl rfl ?_
  refine RunL.nil ?_
  refine RunE.next ?_
  refine RunC.block ?_
  refine RunC.loopX (X := Eng.Own × List Nat × Nat × Nat) (n0 := [(b2, _)]) (m.cards.length) (fun k x q => (133, .int .i64 (k : Int)) :: (12, .int .i64 ((x.2.2.2 : Nat) : Int)) :: (13, .int .i64 ((x.2.2.1 : Nat) : Int)) :: (14, ownV x.1 x.2.1.length) :: q) (fun _ _ => _) (fun k x => []) (fun k x => ownB 3 x.1 (intsW (natI x.2.1)).flatten ++ (ownB 56 x127 ((esX m).map En.cells).flatten ++ (ownB 3 x32 (intsW (natI L)).flatten ++ []))) (fun k x => OwnOk 1 x.1 x.2.1.length (intsW (natI x.2.1)).flatten ∧ PW (esX m).length (fsX m.pl) x.2.1 x.2.2.1 ∧ x.2.1.length ≤ k ∧ UsedIs (L.take k) x.2.2.2) (some (b129, 0, []), [], 0, 0) ⟨OwnOk.empty, PW.nil _ _, Nat.le_refl _, UsedIs.nil⟩ rfl (Sub.consE (t := 133) rfl rfl (Sub.consE (t := 12) rfl rfl (Sub.consE (t := 13) rfl rfl (Sub.consE (t := 14) rfl rfl (Sub.cons (t := 1) rfl (Sub.cons (t := 2) rfl (Sub.cons (t := 5) rfl (Sub.cons (t := 6) rfl (Sub.cons (t := 11) rfl (Sub.cons (t := 132) rfl (Sub.nil _))))))))))) (.cons (.there .here) rfl (Pick.same (by rfl))) ?_
  intro k x kN kI
  obtain ⟨X1, own, ot, u⟩ := x
  obtain ⟨hx1, hpw, hle, hU⟩ := kI
  dsimp only at hx1 hpw hle hU ⊢
  refine RunC.seq ?_
  refine RunC.region ?_
  refine RunL.val (Val.pure rfl) rfl rfl rfl ?_
  refine RunL.nil ?_
  refine RunE.next ?_
  refine RunC.seq ?_
  refine RunC.cond rfl ?_ ?_
  · intro c3
    have c3' := c3; clear c3
    try simp only [decide_eq_true_eq, decide_eq_false_iff_not, Bool.not_eq_true', Bool.not_eq_false', Bool.and_eq_true, Bool.or_eq_true, Bool.and_eq_false_iff, Bool.or_eq_false_iff, Int.not_le, Int.not_lt] at c3'
    have hk : k < m.cards.length := by omega
    have hk2 : k < (fsX m.pl).length := by omega
    obtain ⟨f, hf2⟩ : ∃ f, (fsX m.pl)[k] = f := ⟨_, rfl⟩
    have hf12 := hall f (hf2 ▸ List.getElem_mem hk2)
    obtain ⟨i, hi, hil⟩ := mod_at (k := k) hy
    obtain ⟨B, hB⟩ : ∃ B, ys[i] = B := ⟨_, rfl⟩
    have hB8 : B.toNat < 256 := UInt8.toNat_lt B
    have hkL : k < L.length := by omega
    obtain ⟨c, hc⟩ : ∃ c, L[k] = c := ⟨_, rfl⟩
    have hcf := hway.fit k hkL
    rw [hc, getD_at hk2 hf2] at hcf
    have hcn := used_new hway.nd hkL hU
    rw [hc] at hcn
    have hU2 : UsedIs (L.take (k + 1)) (u ||| 2 ^ c) := by (rw [List.take_succ_eq_append_getElem hkL, hc]; exact hU.snoc (by omega))
    have g1 := shr_one hcf.2
    have g2 := shr_zero hcn
    have hskc := Nat.shiftRight_le f c
    have handc := Nat.and_le_right (n := f >>> c) (m := 1)
    have hsku := Nat.shiftRight_le u c
    have handu := Nat.and_le_right (n := u >>> c) (m := 1)
    have hu12 := hU.lt
    have h2c : 2 ^ c < 2 ^ 12 := Nat.pow_lt_pow_right (by decide) (by omega)
    have horc := Nat.or_lt_two_pow hu12 h2c
    refine RunC.skip ?_
    refine RunE.next ?_
    refine RunC.seq ?_
    refine RunC.block ?_
    refine RunC.seq ?_
    refine RunC.region ?_
    refine RunL.val (Val.pure rfl) rfl rfl rfl ?_
    refine RunL.val (Val.pure rfl) rfl rfl rfl ?_
    refine RunL.nil ?_
    refine RunE.next ?_
    refine RunC.seq ?_
    refine RunC.region ?_
    refine RunL.val (Val.load_agg rfl (.head _) ty_25 rfl) rfl rfl rfl ?_
    refine RunL.val (Val.pure rfl) rfl rfl rfl ?_
    refine RunL.callP (isCall_func rfl ent_14) rfl rfl rfl (fun w hm => (by have h9 := fits_calls m hsm (k : Int) w (hM.mono0 hm); rw [fits_at hX hk2 hf2] at h9; exact h9)) ?_
    iterate 5 refine RunL.val (Val.pure rfl) rfl rfl rfl ?_
    refine RunL.nil ?_
    refine RunE.next ?_
    refine RunC.seq ?_
    refine RunC.seq ?_
    refine RunC.region ?_
    refine RunL.val (Val.pure rfl) rfl rfl rfl ?_
    refine RunL.val (Val.pure rfl) rfl rfl rfl ?_
    refine RunL.nil ?_
    refine RunE.next ?_
    refine RunC.cond rfl (fun h => absurd h (by simp)) ?_
    intro c4
    clear c4
    refine RunC.skip ?_
    refine RunE.next ?_
    refine RunC.seq ?_
    refine RunC.seq ?_
    refine RunC.region ?_
    refine RunL.val (Val.pure rfl) rfl rfl rfl ?_
    refine RunL.val (Val.pure rfl) rfl rfl rfl ?_
    refine RunL.nil ?_
    refine RunE.next ?_
    refine RunC.cond rfl ?_ (fun h => absurd h (by simp))
    intro c5
    clear c5
    refine RunC.seq ?_
    refine RunC.seq ?_
    refine RunC.region ?_
    refine RunL.val (Val.pure rfl) rfl rfl rfl ?_
    refine RunL.val (Val.pure rfl) rfl rfl rfl ?_
    refine RunL.val (Val.indexAddr_slp rfl rfl sl_34 (by omega) (by omega) (own_ptr hx32 (by omega))) rfl rfl rfl ?_
    refine RunL.val (Val.load_gen rfl (fun w hm => (ints_sl hx32 (fun b o h => hm.at (.tail _ ((by first | exact List.mem_append_right _ (List.mem_append_right _ (List.mem_append_left _ h)) | exact List.mem_append_right _ (List.mem_append_right _ (List.mem_append_right _ (List.mem_append_left _ h)))))))).loadM1 (by decide) (Mem.refl w) (by simp) ty_3 (by omega) (v := .int .i64 (c : Int)) (by simp [natI, hc]))) rfl rfl rfl ?_
    refine RunL.val (Val.pure rfl) rfl rfl rfl ?_
    refine RunL.nil ?_
    refine RunE.next ?_
    refine RunC.seq ?_
    refine RunC.region ?_
    iterate 3 refine RunL.val (Val.pure rfl) rfl rfl rfl ?_
    refine RunL.orPart (dj := 152) (dp := 156) 4 rfl (fun g152 => by
      have g152' := g152
      try simp only [decide_eq_true_eq, decide_eq_false_iff_not, Bool.not_eq_true', Bool.not_eq_false', Bool.and_eq_true, Bool.or_eq_true, Bool.and_eq_false_iff, Bool.or_eq_false_iff, Int.not_le, Int.not_lt] at g152'
      iterate 4 refine RunL.val (Val.pure rfl) rfl rfl rfl ?_
      exact RunL.segEnd (Sub.cons rfl (Sub.skip rfl (Sub.skip rfl (Sub.skip rfl (Sub.skip rfl (Sub.same rfl (by rw [g152]) (Sub.refl _))))))) (List.Sublist.refl _)
    ) (fun g152 => by
      have g152' := g152
      try simp only [decide_eq_true_eq, decide_eq_false_iff_not, Bool.not_eq_true', Bool.not_eq_false', Bool.and_eq_true, Bool.or_eq_true, Bool.and_eq_false_iff, Bool.or_eq_false_iff, Int.not_le, Int.not_lt] at g152'
      iterate 3 refine RunL.no rfl rfl rfl ?_
      refine RunL.val (Val.pure rfl) rfl rfl rfl ?_
      exact RunL.segEnd (Sub.cons rfl (Sub.skip rfl (Sub.skip rfl (Sub.skip rfl (Sub.skip rfl (Sub.same rfl (by rw [g152]) (Sub.refl _))))))) (List.Sublist.refl _)
    ) ?_
    refine RunL.val (Val.pure rfl) rfl rfl rfl ?_
    refine RunL.orPart (dj := 157) (dp := 163) 6 rfl (fun g157 => by
      have g157' := g157
      try simp only [decide_eq_true_eq, decide_eq_false_iff_not, Bool.not_eq_true', Bool.not_eq_false', Bool.and_eq_true, Bool.or_eq_true, Bool.and_eq_false_iff, Bool.or_eq_false_iff, Int.not_le, Int.not_lt] at g157'
      refine RunL.val (Val.pure rfl) rfl rfl rfl ?_
      refine RunL.val (Val.pure rfl) rfl rfl rfl ?_
      refine RunL.val (Val.shrN (a := f) (b := c) rfl rfl (by show c ≤ 64; omega)) rfl rfl rfl ?_
      refine RunL.val (Val.and (a := f >>> c) (b := 1) rfl rfl (by show _ < 18446744073709551616; omega) (by decide) (i64_inN (by omega))) rfl rfl rfl ?_
      refine RunL.val (Val.pure rfl) rfl rfl rfl ?_
      refine RunL.val (Val.pure rfl) rfl rfl rfl ?_
      exact RunL.segEnd (Sub.cons rfl (Sub.skip rfl (Sub.skip rfl (Sub.skip rfl (Sub.skip rfl (Sub.skip rfl (Sub.skip rfl (Sub.same rfl (by rw [g157]) (Sub.refl _))))))))) (List.Sublist.refl _)
    ) (fun g157 => by
      have g157' := g157
      try simp only [decide_eq_true_eq, decide_eq_false_iff_not, Bool.not_eq_true', Bool.not_eq_false', Bool.and_eq_true, Bool.or_eq_true, Bool.and_eq_false_iff, Bool.or_eq_false_iff, Int.not_le, Int.not_lt] at g157'
      iterate 5 refine RunL.no rfl rfl rfl ?_
      refine RunL.val (Val.pure rfl) rfl rfl rfl ?_
      exact RunL.segEnd (Sub.cons rfl (Sub.skip rfl (Sub.skip rfl (Sub.skip rfl (Sub.skip rfl (Sub.skip rfl (Sub.skip rfl (Sub.same rfl (by rw [g157]) (Sub.refl _))))))))) (List.Sublist.refl _)
    ) ?_
    refine RunL.val (Val.pure rfl) rfl rfl rfl ?_
    refine RunL.orPart (dj := 164) (dp := 170) 6 rfl (fun g164 => by
      have g164' := g164
      try simp only [decide_eq_true_eq, decide_eq_false_iff_not, Bool.not_eq_true', Bool.not_eq_false', Bool.and_eq_true, Bool.or_eq_true, Bool.and_eq_false_iff, Bool.or_eq_false_iff, Int.not_le, Int.not_lt] at g164'
      refine RunL.val (Val.pure rfl) rfl rfl rfl ?_
      refine RunL.val (Val.pure rfl) rfl rfl rfl ?_
      refine RunL.val (Val.shrN (a := u) (b := c) rfl rfl (by show c ≤ 64; omega)) rfl rfl rfl ?_
      refine RunL.val (Val.and (a := u >>> c) (b := 1) rfl rfl (by show _ < 18446744073709551616; omega) (by decide) (i64_inN (by omega))) rfl rfl rfl ?_
      refine RunL.val (Val.pure rfl) rfl rfl rfl ?_
      refine RunL.val (Val.pure rfl) rfl rfl rfl ?_
      exact RunL.segEnd (Sub.cons rfl (Sub.skip rfl (Sub.skip rfl (Sub.skip rfl (Sub.skip rfl (Sub.skip rfl (Sub.skip rfl (Sub.same rfl (by rw [g164]) (Sub.refl _))))))))) (List.Sublist.refl _)
    ) (fun g164 => by
      have g164' := g164
      try simp only [decide_eq_true_eq, decide_eq_false_iff_not, Bool.not_eq_true', Bool.not_eq_false', Bool.and_eq_true, Bool.or_eq_true, Bool.and_eq_false_iff, Bool.or_eq_false_iff, Int.not_le, Int.not_lt] at g164'
      iterate 5 refine RunL.no rfl rfl rfl ?_
      refine RunL.val (Val.pure rfl) rfl rfl rfl ?_
      exact RunL.segEnd (Sub.cons rfl (Sub.skip rfl (Sub.skip rfl (Sub.skip rfl (Sub.skip rfl (Sub.skip rfl (Sub.skip rfl (Sub.same rfl (by rw [g164]) (Sub.refl _))))))))) (List.Sublist.refl _)
    ) ?_
    refine RunL.nil ?_
    refine RunE.next ?_
    refine RunC.cond rfl (fun h => absurd h (by rw [g1, g2]; have := hcf.1; simp; omega)) ?_
    intro c6
    clear c6
    refine RunC.skip ?_
    refine RunE.next ?_
    refine RunC.region ?_
    iterate 3 refine RunL.val (Val.pure rfl) rfl rfl rfl ?_
    refine RunL.val (Val.indexAddr_slp rfl rfl sl_34 (by omega) (by omega) (own_ptr hx32 (by omega))) rfl rfl rfl ?_
    refine RunL.val (Val.load_gen rfl (fun w hm => (ints_sl hx32 (fun b o h => hm.at (.tail _ ((by first | exact List.mem_append_right _ (List.mem_append_right _ (List.mem_append_left _ h)) | exact List.mem_append_right _ (List.mem_append_right _ (List.mem_append_right _ (List.mem_append_left _ h)))))))).loadM1 (by decide) (Mem.refl w) (by simp) ty_3 (by omega) (v := .int .i64 (c : Int)) (by simp [natI, hc]))) rfl rfl rfl ?_
    refine RunL.val (Val.shl1 (b := c) rfl rfl (by show c ≤ 64; omega) (i64_inN (by omega))) rfl rfl rfl ?_
    refine RunL.val (Val.or (a := u) (b := 2 ^ c) rfl rfl (by show _ < 18446744073709551616; omega) (by show _ < 18446744073709551616; omega) (i64_inN (by omega))) rfl rfl rfl ?_
    refine RunL.val (Val.pure rfl) rfl rfl rfl ?_
    refine RunL.nil ?_
    refine RunE.next ?_
    refine RunC.seq ?_
    refine RunC.region ?_
    refine RunL.val (Val.pure rfl) rfl rfl rfl ?_
    refine RunL.val (Val.pure rfl) rfl rfl rfl ?_
    refine RunL.nil ?_
    refine RunE.next ?_
    refine RunC.block ?_
    refine RunC.loopX (X := Eng.Own × List Nat × Nat) (n0 := [(b2, _)]) ((esX m).length) (fun j y q => (179, .int .i64 (j : Int)) :: (13, .int .i64 ((y.2.2 : Nat) : Int)) :: (14, ownV y.1 y.2.1.length) :: q) (fun _ _ => _) (fun j y => []) (fun j y => ownB 3 y.1 (intsW (natI y.2.1)).flatten ++ (ownB 56 x127 ((esX m).map En.cells).flatten ++ (ownB 3 x32 (intsW (natI L)).flatten ++ []))) (fun j y => OwnOk 1 y.1 y.2.1.length (intsW (natI y.2.1)).flatten ∧ PW (esX m).length (fsX m.pl) y.2.1 y.2.2 ∧ y.2.1.length ≤ k + 1) (X1, own, ot) ⟨hx1, hpw, Nat.le_succ_of_le hle⟩ rfl (Sub.consE (t := 179) rfl rfl (Sub.consE (t := 13) rfl rfl (Sub.consE (t := 14) rfl rfl (Sub.cons (t := 1) rfl (Sub.cons (t := 2) rfl (Sub.cons (t := 5) rfl (Sub.cons (t := 6) rfl (Sub.cons (t := 11) rfl (Sub.cons (t := 12) rfl (Sub.cons (t := 132) rfl (Sub.cons (t := 133) rfl (Sub.cons (t := 15) rfl (Sub.cons (t := 16) rfl (Sub.cons (t := 178) rfl (Sub.nil _))))))))))))))) (.cons .here rfl (Pick.same rfl)) ?_
    intro j y jN jI
    obtain ⟨Y1, own2, ot2⟩ := y
    obtain ⟨hy1, hpw2, hle2⟩ := jI
    dsimp only at hy1 hpw2 hle2 ⊢
    refine RunC.seq ?_
    refine RunC.region ?_
    refine RunL.val (Val.pure rfl) rfl rfl rfl ?_
    refine RunL.nil ?_
    refine RunE.next ?_
    refine RunC.seq ?_
    refine RunC.cond rfl ?_ ?_
    · intro c7
      have c7' := c7; clear c7
      try simp only [decide_eq_true_eq, decide_eq_false_iff_not, Bool.not_eq_true', Bool.not_eq_false', Bool.and_eq_true, Bool.or_eq_true, Bool.and_eq_false_iff, Bool.or_eq_false_iff, Int.not_le, Int.not_lt] at c7'
      have hj : j < (esX m).length := by omega
      obtain ⟨J, hJ, hJl⟩ := mod_at (k := B.toNat + j) (show 0 < (esX m).length by omega)
      have hsk := Nat.shiftRight_le f J
      have hand := Nat.and_le_right (n := f >>> J) (m := 1)
      have hsk2 := Nat.shiftRight_le ot2 J
      have hand2 := Nat.and_le_right (n := ot2 >>> J) (m := 1)
      have hot2 := hpw2.lt
      have h2J : 2 ^ J < 2 ^ 12 := Nat.pow_lt_pow_right (by decide) (by omega)
      have hor := Nat.or_lt_two_pow hot2 h2J
      refine RunC.skip ?_
      refine RunE.next ?_
      refine RunC.seq ?_
      refine RunC.block ?_
      refine RunC.seq ?_
      refine RunC.region ?_
      refine RunL.val (Val.pure rfl) rfl rfl rfl ?_
      refine RunL.val (Val.pure rfl) rfl rfl rfl ?_
      refine RunL.nil ?_
      refine RunE.next ?_
      refine RunC.seq ?_
      refine RunC.region ?_
      iterate 3 refine RunL.val (Val.pure rfl) rfl rfl rfl ?_
      refine RunL.val (Val.len_sl rfl sl_47) rfl rfl rfl ?_
      refine RunL.val (Val.remN (a := k) (b := ys.length) rfl rfl hy) rfl rfl rfl ?_
      rw [hi]
      refine RunL.val (Val.indexAddr_slp rfl rfl sl_47 (by omega) (by omega) (hS.ptrM hil)) rfl rfl rfl ?_
      refine RunL.val (Val.load_gen rfl (fun w hm => hS.loadM1 (by decide) hm (by simp) ty_5 hil (v := byteV B) (by simp [hB]))) rfl rfl rfl ?_
      refine RunL.val (Val.convInt rfl und_5 und_3 (IntWalk.i64_in _ ⟨by omega, by omega⟩)) rfl rfl rfl ?_
      refine RunL.val (Val.pure rfl) rfl rfl rfl ?_
      refine RunL.val (Val.addN (a := B.toNat) (b := j) (B.toNat + j) rfl rfl rfl (i64_inN (by omega))) rfl rfl rfl ?_
      refine RunL.val (Val.pure rfl) rfl rfl rfl ?_
      refine RunL.val (Val.remN (a := B.toNat + j) (b := (esX m).length) rfl rfl (by omega)) rfl rfl rfl ?_
      refine RunL.val (Val.pure rfl) rfl rfl rfl ?_
      refine RunL.nil ?_
      refine RunE.next ?_
      refine RunC.seq ?_
      refine RunC.region ?_
      rw [hJ]
      refine RunL.val (Val.pure rfl) rfl rfl rfl ?_
      refine RunL.val (Val.len_own rfl sl_34 hy1) rfl rfl rfl ?_
      iterate 3 refine RunL.val (Val.pure rfl) rfl rfl rfl ?_
      refine RunL.andPart (dj := 198) (dp := 204) 6 rfl (fun g198 => by
        have g198' := g198
        try simp only [decide_eq_true_eq, decide_eq_false_iff_not, Bool.not_eq_true', Bool.not_eq_false', Bool.and_eq_true, Bool.or_eq_true, Bool.and_eq_false_iff, Bool.or_eq_false_iff, Int.not_le, Int.not_lt] at g198'
        refine RunL.val (Val.pure rfl) rfl rfl rfl ?_
        refine RunL.val (Val.pure rfl) rfl rfl rfl ?_
        refine RunL.val (Val.shrN (a := f) (b := J) rfl rfl (by show J ≤ 64; omega)) rfl rfl rfl ?_
        refine RunL.val (Val.and (a := f >>> J) (b := 1) rfl rfl (by show _ < 18446744073709551616; omega) (by decide) (i64_inN (by omega))) rfl rfl rfl ?_
        refine RunL.val (Val.pure rfl) rfl rfl rfl ?_
        refine RunL.val (Val.pure rfl) rfl rfl rfl ?_
        exact RunL.segEnd (Sub.cons rfl (Sub.skip rfl (Sub.skip rfl (Sub.skip rfl (Sub.skip rfl (Sub.skip rfl (Sub.skip rfl (Sub.same rfl (by rw [g198]) (Sub.refl _))))))))) (List.Sublist.refl _)
      ) (fun g198 => by
        have g198' := g198
        try simp only [decide_eq_true_eq, decide_eq_false_iff_not, Bool.not_eq_true', Bool.not_eq_false', Bool.and_eq_true, Bool.or_eq_true, Bool.and_eq_false_iff, Bool.or_eq_false_iff, Int.not_le, Int.not_lt] at g198'
        iterate 5 refine RunL.no rfl rfl rfl ?_
        refine RunL.val (Val.pure rfl) rfl rfl rfl ?_
        exact RunL.segEnd (Sub.cons rfl (Sub.skip rfl (Sub.skip rfl (Sub.skip rfl (Sub.skip rfl (Sub.skip rfl (Sub.skip rfl (Sub.same rfl (by rw [g198]) (Sub.refl _))))))))) (List.Sublist.refl _)
      ) ?_
      refine RunL.val (Val.pure rfl) rfl rfl rfl ?_
      refine RunL.andPart (dj := 205) (dp := 211) 6 rfl (fun g205 => by
        have g205' := g205
        try simp only [decide_eq_true_eq, decide_eq_false_iff_not, Bool.not_eq_true', Bool.not_eq_false', Bool.and_eq_true, Bool.or_eq_true, Bool.and_eq_false_iff, Bool.or_eq_false_iff, Int.not_le, Int.not_lt] at g205'
        refine RunL.val (Val.pure rfl) rfl rfl rfl ?_
        refine RunL.val (Val.pure rfl) rfl rfl rfl ?_
        refine RunL.val (Val.shrN (a := ot2) (b := J) rfl rfl (by show J ≤ 64; omega)) rfl rfl rfl ?_
        refine RunL.val (Val.and (a := ot2 >>> J) (b := 1) rfl rfl (by show _ < 18446744073709551616; omega) (by decide) (i64_inN (by omega))) rfl rfl rfl ?_
        refine RunL.val (Val.pure rfl) rfl rfl rfl ?_
        refine RunL.val (Val.pure rfl) rfl rfl rfl ?_
        exact RunL.segEnd (Sub.cons rfl (Sub.skip rfl (Sub.skip rfl (Sub.skip rfl (Sub.skip rfl (Sub.skip rfl (Sub.skip rfl (Sub.same rfl (by rw [g205]) (Sub.refl _))))))))) (List.Sublist.refl _)
      ) (fun g205 => by
        have g205' := g205
        try simp only [decide_eq_true_eq, decide_eq_false_iff_not, Bool.not_eq_true', Bool.not_eq_false', Bool.and_eq_true, Bool.or_eq_true, Bool.and_eq_false_iff, Bool.or_eq_false_iff, Int.not_le, Int.not_lt] at g205'
        iterate 5 refine RunL.no rfl rfl rfl ?_
        refine RunL.val (Val.pure rfl) rfl rfl rfl ?_
        exact RunL.segEnd (Sub.cons rfl (Sub.skip rfl (Sub.skip rfl (Sub.skip rfl (Sub.skip rfl (Sub.skip rfl (Sub.skip rfl (Sub.same rfl (by rw [g205]) (Sub.refl _))))))))) (List.Sublist.refl _)
      ) ?_
      refine RunL.nil ?_
      refine RunE.next ?_
      refine RunC.cond rfl ?_ ?_
      · intro c8
        have c8' := c8; clear c8
        try simp only [decide_eq_true_eq, decide_eq_false_iff_not, Bool.not_eq_true', Bool.not_eq_false', Bool.and_eq_true, Bool.or_eq_true, Bool.and_eq_false_iff, Bool.or_eq_false_iff, Int.not_le, Int.not_lt] at c8'
        obtain ⟨⟨g3, g4⟩, g5⟩ := c8'
        have g3 : own2.length = k := by omega
        subst g3
        have hpw3 := hpw2.snoc hk2 hf2 hJl h12 (bit_yes g4) (bit_no0 g5)
        refine RunC.drawX (X := Eng.Own) 9 (n0 := [(b2, _)]) (fun z q => (14, ownV z (own2.length + 1)) :: (13, .int .i64 ((ot2 ||| 2 ^ J : Nat) : Int)) :: q) (fun z => []) (fun z => []) (fun z => ownB 3 z (intsW (natI (own2 ++ [J]))).flatten ++ (ownB 56 x127 ((esX m).map En.cells).flatten ++ (ownB 3 x32 (intsW (natI L)).flatten ++ []))) (fun z => OwnOk 1 z (own2.length + 1) (intsW (natI (own2 ++ [J]))).flatten) fol_ (.cons .here rfl .nil) (Sub.cons (t := 1) rfl (Sub.cons (t := 2) rfl (Sub.cons (t := 5) rfl (Sub.cons (t := 6) rfl (Sub.cons (t := 11) rfl (Sub.cons (t := 12) rfl (Sub.cons (t := 132) rfl (Sub.cons (t := 133) rfl (Sub.cons (t := 15) rfl (Sub.cons (t := 16) rfl (Sub.cons (t := 178) rfl (Sub.cons (t := 179) rfl (Sub.nil _))))))))))))) (.cons .here rfl .nil) ?_ ?_
        · refine RunA.val (i := 0) rfl (by kernel_rfl) (by kernel_rfl) (Val.pure rfl) rfl rfl rfl (fun _ _ _ h => h) (.cons .here rfl .nil) rfl ?_
          refine RunA.val (i := 1) rfl (by kernel_rfl) (by kernel_rfl) (Val.pure rfl) rfl rfl rfl (fun _ _ _ h => h) (.cons .here rfl .nil) rfl ?_
          refine RunA.val (i := 4) rfl (by kernel_rfl) (by kernel_rfl) (Val.pure rfl) rfl rfl rfl (fun _ _ _ h => h) (.cons .here rfl .nil) rfl ?_
          refine RunA.val (i := 5) rfl (by kernel_rfl) (by kernel_rfl) (Val.pure rfl) rfl rfl rfl (fun _ _ _ h => h) (.cons .here rfl .nil) rfl ?_
          refine RunA.val (i := 6) rfl (by kernel_rfl) (by kernel_rfl) (Val.shl1 (b := J) rfl rfl (by show J ≤ 64; omega) (i64_inN (by omega))) rfl rfl rfl (fun _ _ _ h => h) (.cons .here rfl .nil) rfl ?_
          refine RunA.val (i := 7) rfl (by kernel_rfl) (by kernel_rfl) (Val.or (a := ot2) (b := 2 ^ J) rfl rfl (by show _ < 18446744073709551616; omega) (by show _ < 18446744073709551616; omega) (i64_inN (by omega))) rfl rfl rfl (fun _ _ _ h => h) (.cons .here rfl .nil) rfl ?_
          refine RunA.one (i := 2) (by kernel_rfl) (by kernel_rfl) ?_
          refine RunI.new rfl (New.buildSlice (parts := [(0, .tmp 213)]) rfl sl_34 zero_3 rfl rfl rfl rfl) rfl rfl rfl (fun b214 => (RunK.toA (.cons .here rfl (.cons .here rfl .nil)) (.cons (.there .here) rfl .nil) rfl ?_))
          refine RunA.one (i := 3) (by kernel_rfl) (by kernel_rfl) ?_
          refine RunI.append (A := [(b214, _), (b2, _)]) (B := _) (x := Y1) (ys := [.int .i64 (J : Int)]) rfl ap_34 rfl rfl rfl hy1 rfl (fun h => by cases h) (fun w hm => src_blk (hm.at (.head _))) (one_of rfl) (by simp only [maxLen]; omega) (by omega) rfl (fun z215 hz215 => (RunK.toA (.cons .here rfl (.cons .here rfl .nil)) (.cons .here rfl (.cons .here rfl .nil)) rfl ?_))
          refine RunA.val (i := 8) rfl (by kernel_rfl) (by kernel_rfl) (Val.pure rfl) rfl rfl rfl (fun _ _ _ h => h) (.cons .here rfl (.cons .here rfl .nil)) rfl ?_
          refine RunA.toB (by kernel_rfl) ?_
          refine RunB.one (i := 9) (by kernel_rfl) ?_
          refine RunI.val rfl (Val.pure rfl) rfl rfl rfl (RunK.toB ?_)
          refine RunB.done (by kernel_rfl) ?_
          exact RunE.joinX z215 (by rw [nat_snoc]; exact hz215) rfl (Sub.consE (t := 14) rfl rfl (Sub.consE (t := 13) rfl rfl (Sub.cons (t := 1) rfl (Sub.cons (t := 2) rfl (Sub.cons (t := 5) rfl (Sub.cons (t := 6) rfl (Sub.cons (t := 11) rfl (Sub.cons (t := 12) rfl (Sub.cons (t := 132) rfl (Sub.cons (t := 133) rfl (Sub.cons (t := 15) rfl (Sub.cons (t := 16) rfl (Sub.cons (t := 178) rfl (Sub.cons (t := 179) rfl (Sub.nil _))))))))))))))) (.cons (.there .here) rfl (Pick.skip (Pick.same (by rw [nat_snoc]))))
        · intro z zI
          have hx1 := zI
          refine RunE.block_normal ?_
          refine RunE.next ?_
          refine RunC.region ?_
          refine RunL.val (Val.add rfl rfl (IntWalk.i64_in _ ⟨by omega, by omega⟩)) rfl rfl rfl ?_
          refine RunL.val (Val.pure rfl) rfl rfl rfl ?_
          refine RunL.nil ?_
          exact RunE.roundX (z, own2 ++ [J], ot2 ||| 2 ^ J) (by omega) ⟨(by rw [List.length_append]; exact hx1), hpw3, (by simp)⟩ rfl (Sub.consE (t := 179) rfl rfl (Sub.consE (t := 13) rfl rfl (Sub.consE (t := 14) rfl (by first | rfl | simp) (Sub.cons (t := 1) rfl (Sub.cons (t := 2) rfl (Sub.cons (t := 5) rfl (Sub.cons (t := 6) rfl (Sub.cons (t := 11) rfl (Sub.cons (t := 12) rfl (Sub.cons (t := 132) rfl (Sub.cons (t := 133) rfl (Sub.cons (t := 15) rfl (Sub.cons (t := 16) rfl (Sub.cons (t := 178) rfl (Sub.nil _))))))))))))))) (.cons .here rfl (Pick.refl _))
      · intro c8
        have c8' := c8; clear c8
        try simp only [decide_eq_true_eq, decide_eq_false_iff_not, Bool.not_eq_true', Bool.not_eq_false', Bool.and_eq_true, Bool.or_eq_true, Bool.and_eq_false_iff, Bool.or_eq_false_iff, Int.not_le, Int.not_lt] at c8'
        refine RunC.skip ?_
        refine RunE.block_normal ?_
        refine RunE.next ?_
        refine RunC.region ?_
        refine RunL.val (Val.add rfl rfl (IntWalk.i64_in _ ⟨by omega, by omega⟩)) rfl rfl rfl ?_
        refine RunL.val (Val.pure rfl) rfl rfl rfl ?_
        refine RunL.nil ?_
        exact RunE.roundX (Y1, own2, ot2) (by omega) ⟨hy1, hpw2, hle2⟩ rfl (Sub.consE (t := 179) rfl rfl (Sub.consE (t := 13) rfl rfl (Sub.consE (t := 14) rfl (by first | rfl | simp) (Sub.cons (t := 1) rfl (Sub.cons (t := 2) rfl (Sub.cons (t := 5) rfl (Sub.cons (t := 6) rfl (Sub.cons (t := 11) rfl (Sub.cons (t := 12) rfl (Sub.cons (t := 132) rfl (Sub.cons (t := 133) rfl (Sub.cons (t := 15) rfl (Sub.cons (t := 16) rfl (Sub.cons (t := 178) rfl (Sub.nil _))))))))))))))) (.cons .here rfl (Pick.refl _))
    · intro c7
      have c7' := c7; clear c7
      try simp only [decide_eq_true_eq, decide_eq_false_iff_not, Bool.not_eq_true', Bool.not_eq_false', Bool.and_eq_true, Bool.or_eq_true, Bool.and_eq_false_iff, Bool.or_eq_false_iff, Int.not_le, Int.not_lt] at c7'
      refine RunC.exit ?_
      refine RunE.pass_exit ?_
      refine RunE.pass_exit ?_
      refine RunE.block_here ?_
      refine RunE.block_normal ?_
      refine RunE.next ?_
      refine RunC.region ?_
      refine RunL.val (Val.add rfl rfl (IntWalk.i64_in _ ⟨by omega, by omega⟩)) rfl rfl rfl ?_
      refine RunL.val (Val.pure rfl) rfl rfl rfl ?_
      refine RunL.nil ?_
      exact RunE.roundX (Y1, own2, ot2, u ||| 2 ^ c) (by omega) ⟨hy1, hpw2, hle2, hU2⟩ rfl (Sub.consE (t := 133) rfl rfl (Sub.consE (t := 12) rfl rfl (Sub.consE (t := 13) rfl rfl (Sub.consE (t := 14) rfl rfl (Sub.cons (t := 1) rfl (Sub.cons (t := 2) rfl (Sub.cons (t := 5) rfl (Sub.cons (t := 6) rfl (Sub.cons (t := 11) rfl (Sub.cons (t := 132) rfl (Sub.nil _))))))))))) (.cons .here rfl (Pick.refl _))
  · intro c3
    have c3' := c3; clear c3
    try simp only [decide_eq_true_eq, decide_eq_false_iff_not, Bool.not_eq_true', Bool.not_eq_false', Bool.and_eq_true, Bool.or_eq_true, Bool.and_eq_false_iff, Bool.or_eq_false_iff, Int.not_le, Int.not_lt] at c3'
    have hkn : k = m.cards.length := by omega
    subst hkn
    refine RunC.exit ?_
    refine RunE.pass_exit ?_
    refine RunE.pass_exit ?_
    refine RunE.block_here ?_
    refine RunE.next ?_
    refine RunC.seq ?_
    refine RunC.seq ?_
    refine RunC.region ?_
    refine RunL.val (Val.pure rfl) rfl rfl rfl ?_
    refine RunL.val (Val.len_own rfl sl_34 hx1) rfl rfl rfl ?_
    refine RunL.val (Val.fieldAddr rfl fld_25_1) rfl rfl rfl ?_
    refine RunL.val (Val.load_one rfl (.head _) ty_23 rfl) rfl rfl rfl ?_
    refine RunL.val (Val.len_sl rfl sl_23) rfl rfl rfl ?_
    refine RunL.val (Val.pure rfl) rfl rfl rfl ?_
    refine RunL.nil ?_
    refine RunE.next ?_
    refine RunC.cond rfl ?_ ?_
    · intro c9
      have c9' := c9; clear c9
      try simp only [decide_eq_true_eq, decide_eq_false_iff_not, Bool.not_eq_true', Bool.not_eq_false', Bool.and_eq_true, Bool.or_eq_true, Bool.and_eq_false_iff, Bool.or_eq_false_iff, Int.not_le, Int.not_lt] at c9'
      refine RunC.seq ?_
      refine RunC.region ?_
      refine RunL.callP (isCall_func rfl ent_13) rfl rfl rfl (fun w hm => hawake_calls w) ?_
      refine RunL.val (Val.pure rfl) rfl rfl rfl ?_
      refine RunL.nil ?_
      refine RunE.next ?_
      refine RunC.ret ?_
      refine RunE.pass_ret ?_
      exact RunE.retP (.r1 rfl (.tmp rfl)) (by first | rfl | simp)
    · intro c9
      have c9' := c9; clear c9
      try simp only [decide_eq_true_eq, decide_eq_false_iff_not, Bool.not_eq_true', Bool.not_eq_false', Bool.and_eq_true, Bool.or_eq_true, Bool.and_eq_false_iff, Bool.or_eq_false_iff, Int.not_le, Int.not_lt] at c9'
      have hol : own.length = m.cards.length := by omega
      have hway2 := hpw.way (by omega)
      have hlex := first_le hway2
      rw [hL] at hlex
      refine RunC.skip ?_
      refine RunE.next ?_
      refine RunC.seq ?_
      refine RunC.seq ?_
      refine RunC.region ?_
      refine RunL.val (Val.pure rfl) rfl rfl rfl ?_
      refine RunL.val (Val.pure rfl) rfl rfl rfl ?_
      refine RunL.nil ?_
      refine RunE.next ?_
      refine RunC.cond rfl (fun h => absurd h (by simp)) ?_
      intro c10
      clear c10
      refine RunC.skip ?_
      refine RunE.next ?_
      refine RunC.seq ?_
      refine RunC.seq ?_
      refine RunC.region ?_
      refine RunL.val (Val.pure rfl) rfl rfl rfl ?_
      refine RunL.val (Val.len_sl rfl sl_34) rfl rfl rfl ?_
      refine RunL.val (Val.pure rfl) rfl rfl rfl ?_
      refine RunL.nil ?_
      refine RunE.next ?_
      refine RunC.block ?_
      refine RunC.loopK (m.cards.length) (fun l q => (233, .int .i64 (l : Int)) :: q) (fun _ => _) (fun _ => []) (fun l => own.take l = L.take l) (by simp) rfl (Sub.consE (t := 233) rfl rfl (Sub.cons (t := 2) rfl (Sub.cons (t := 5) rfl (Sub.cons (t := 14) rfl (Sub.cons (t := 232) rfl (Sub.nil _)))))) (Pick.skip (Pick.app (Pick.appR (ownB _ x127 _) (Pick.app .nil (ownB _ x32 _))) (ownB _ X1 _))) ?_
      intro l lN lI
      refine RunC.seq ?_
      refine RunC.region ?_
      refine RunL.val (Val.pure rfl) rfl rfl rfl ?_
      refine RunL.nil ?_
      refine RunE.next ?_
      refine RunC.seq ?_
      refine RunC.cond rfl ?_ ?_
      · intro c11
        have c11' := c11; clear c11
        try simp only [decide_eq_true_eq, decide_eq_false_iff_not, Bool.not_eq_true', Bool.not_eq_false', Bool.and_eq_true, Bool.or_eq_true, Bool.and_eq_false_iff, Bool.or_eq_false_iff, Int.not_le, Int.not_lt] at c11'
        have hl1 : l < m.cards.length := by omega
        have hl2 : l < own.length := by omega
        have hl3 : l < L.length := by omega
        obtain ⟨x, hx⟩ : ∃ x, own[l] = x := ⟨_, rfl⟩
        obtain ⟨y, hyy⟩ : ∃ y, L[l] = y := ⟨_, rfl⟩
        refine RunC.skip ?_
        refine RunE.next ?_
        refine RunC.seq ?_
        refine RunC.block ?_
        refine RunC.seq ?_
        refine RunC.region ?_
        refine RunL.val (Val.pure rfl) rfl rfl rfl ?_
        refine RunL.val (Val.pure rfl) rfl rfl rfl ?_
        refine RunL.nil ?_
        refine RunE.next ?_
        refine RunC.seq ?_
        obtain ⟨bx1, cx1, rx1, rfl, lx11, lx12, lx13⟩ := hx1.has (by omega)
        obtain ⟨bx32, cx32, rx32, rfl, lx321, lx322, lx323⟩ := hx32.has (by rw [hLi]; omega)
        refine RunC.draw 8 fol_ (.cons .here rfl (.cons .here rfl .nil)) ?_
        refine RunA.val (i := 0) rfl (by kernel_rfl) (by kernel_rfl) (Val.pure rfl) rfl rfl rfl (fun _ _ _ h => h) (.cons .here rfl (.cons .here rfl .nil)) rfl ?_
        refine RunA.val (i := 1) rfl (by kernel_rfl) (by kernel_rfl) (Val.pure rfl) rfl rfl rfl (fun _ _ _ h => h) (.cons .here rfl (.cons .here rfl .nil)) rfl ?_
        refine RunA.val (i := 2) rfl (by kernel_rfl) (by kernel_rfl) (Val.indexAddr_slp rfl rfl sl_34 (by omega) (by omega) rfl) rfl rfl rfl (fun _ _ _ h => h) (.cons .here rfl (.cons .here rfl .nil)) rfl ?_
        refine RunA.val (i := 3) rfl (by kernel_rfl) (by kernel_rfl) (Val.load_gen rfl (fun w hm => (Sl.rowsR (xs := intsW (natI own)) (t := rx1) (hm.at (.head _)) (ints_row _)).loadM1 (by decide) (Mem.refl w) (by simp) ty_3 (by rw [natI_len]; exact hl2) (v := .int .i64 (x : Int)) (by simp [natI, hx]))) rfl rfl rfl (fun _ _ _ h => h) (.cons .here rfl (.cons .here rfl .nil)) rfl ?_
        refine RunA.val (i := 4) rfl (by kernel_rfl) (by kernel_rfl) (Val.pure rfl) rfl rfl rfl (fun _ _ _ h => h) (.cons .here rfl (.cons .here rfl .nil)) rfl ?_
        refine RunA.val (i := 5) rfl (by kernel_rfl) (by kernel_rfl) (Val.pure rfl) rfl rfl rfl (fun _ _ _ h => h) (.cons .here rfl (.cons .here rfl .nil)) rfl ?_
        refine RunA.val (i := 6) rfl (by kernel_rfl) (by kernel_rfl) (Val.indexAddr_slp rfl rfl sl_34 (by omega) (by omega) rfl) rfl rfl rfl (fun _ _ _ h => h) (.cons .here rfl (.cons .here rfl .nil)) rfl ?_
        refine RunA.val (i := 7) rfl (by kernel_rfl) (by kernel_rfl) (Val.load_gen rfl (fun w hm => (Sl.rowsR (xs := intsW (natI L)) (t := rx32) (hm.at (.tail _ (.head _))) (ints_row _)).loadM1 (by decide) (Mem.refl w) (by simp) ty_3 (by omega) (v := .int .i64 (y : Int)) (by simp [natI, hyy]))) rfl rfl rfl (fun _ _ _ h => h) (.cons .here rfl (.cons .here rfl .nil)) rfl ?_
        refine RunA.toB (by kernel_rfl) ?_
        refine RunB.one (i := 8) (by kernel_rfl) ?_
        refine RunI.val rfl (Val.pure rfl) rfl rfl rfl (RunK.toB ?_)
        refine RunB.done (by kernel_rfl) ?_
        refine RunE.next ?_
        refine RunC.cond rfl ?_ ?_
        · intro c12
          have c12' := c12; clear c12
          try simp only [decide_eq_true_eq, decide_eq_false_iff_not, Bool.not_eq_true', Bool.not_eq_false', Bool.and_eq_true, Bool.or_eq_true, Bool.and_eq_false_iff, Bool.or_eq_false_iff, Int.not_le, Int.not_lt] at c12'
          have hlt : (y : Int) < (x : Int) := by
            rcases hlex with h9 | h9
            · exfalso; subst h9; exact c12' (by rw [← hx, ← hyy])
            · have h10 := lex_at h9 l hl3 hl2 lI.symm (by rw [hx, hyy]; intro h11; exact c12' (by rw [h11]))
              rw [hx, hyy] at h10
              omega
          refine RunC.seq ?_
          apply RunC.drawJ (J := J0 _ _ _ _ _ _) 8 fol_ (.cons .here rfl (.cons .here rfl .nil))
          · refine RunA.val (i := 0) rfl (by kernel_rfl) (by kernel_rfl) (Val.pure rfl) rfl rfl rfl (fun _ _ _ h => h) (.cons .here rfl (.cons .here rfl .nil)) rfl ?_
            refine RunA.val (i := 1) rfl (by kernel_rfl) (by kernel_rfl) (Val.pure rfl) rfl rfl rfl (fun _ _ _ h => h) (.cons .here rfl (.cons .here rfl .nil)) rfl ?_
            refine RunA.val (i := 2) rfl (by kernel_rfl) (by kernel_rfl) (Val.indexAddr_slp rfl rfl sl_34 (by omega) (by omega) rfl) rfl rfl rfl (fun _ _ _ h => h) (.cons .here rfl (.cons .here rfl .nil)) rfl ?_
            refine RunA.val (i := 3) rfl (by kernel_rfl) (by kernel_rfl) (Val.load_gen rfl (fun w hm => (Sl.rowsR (xs := intsW (natI L)) (t := rx32) (hm.at (.tail _ (.head _))) (ints_row _)).loadM1 (by decide) (Mem.refl w) (by simp) ty_3 (by omega) (v := .int .i64 (y : Int)) (by simp [natI, hyy]))) rfl rfl rfl (fun _ _ _ h => h) (.cons .here rfl (.cons .here rfl .nil)) rfl ?_
            refine RunA.val (i := 4) rfl (by kernel_rfl) (by kernel_rfl) (Val.pure rfl) rfl rfl rfl (fun _ _ _ h => h) (.cons .here rfl (.cons .here rfl .nil)) rfl ?_
            refine RunA.val (i := 5) rfl (by kernel_rfl) (by kernel_rfl) (Val.pure rfl) rfl rfl rfl (fun _ _ _ h => h) (.cons .here rfl (.cons .here rfl .nil)) rfl ?_
            refine RunA.val (i := 6) rfl (by kernel_rfl) (by kernel_rfl) (Val.indexAddr_slp rfl rfl sl_34 (by omega) (by omega) rfl) rfl rfl rfl (fun _ _ _ h => h) (.cons .here rfl (.cons .here rfl .nil)) rfl ?_
            refine RunA.val (i := 7) rfl (by kernel_rfl) (by kernel_rfl) (Val.load_gen rfl (fun w hm => (Sl.rowsR (xs := intsW (natI own)) (t := rx1) (hm.at (.head _)) (ints_row _)).loadM1 (by decide) (Mem.refl w) (by simp) ty_3 (by rw [natI_len]; exact hl2) (v := .int .i64 (x : Int)) (by simp [natI, hx]))) rfl rfl rfl (fun _ _ _ h => h) (.cons .here rfl (.cons .here rfl .nil)) rfl ?_
            refine RunA.toB (by kernel_rfl) ?_
            refine RunB.one (i := 8) (by kernel_rfl) ?_
            refine RunI.val rfl (Val.pure rfl) rfl rfl rfl (RunK.toB ?_)
            refine RunB.one (i := 9) (by kernel_rfl) ?_
            refine RunI.val rfl (Val.pure rfl) rfl rfl rfl (RunK.toB ?_)
            refine RunB.ways (dj := 254) rfl ?_ ?_
            · intro g254
              have g254' := g254; clear g254
              try simp only [decide_eq_true_eq, decide_eq_false_iff_not, Bool.not_eq_true', Bool.not_eq_false', Bool.and_eq_true, Bool.or_eq_true, Bool.and_eq_false_iff, Bool.or_eq_false_iff, Int.not_le, Int.not_lt] at g254'
              refine RunB.one (i := 10) (by kernel_rfl) ?_
              refine RunI.callP rfl (isCall_func rfl ent_13) rfl rfl rfl (fun w hm => hawake_calls w) (RunK.toB ?_)
              refine RunB.one (i := 11) (by kernel_rfl) ?_
              refine RunI.val rfl (Val.pure rfl) rfl rfl rfl (RunK.toB ?_)
              refine RunB.one (i := 12) (by kernel_rfl) ?_
              refine RunI.val rfl (Val.pure rfl) rfl rfl rfl (RunK.toB ?_)
              refine RunB.done (by kernel_rfl) ?_
              exact RunE.join0  (Sub.consE (t := 4) (v := .bool true) rfl (by first | rfl | (exfalso; omega)) (Sub.skip rfl (Sub.skip rfl (Sub.skip rfl (Sub.skip rfl (Sub.skip rfl (Sub.skip rfl (Sub.skip rfl (Sub.skip rfl (Sub.skip rfl (Sub.skip rfl (Sub.skip rfl (Sub.skip rfl (Sub.skip rfl (Sub.skip rfl (Sub.refl _)))))))))))))))) (Pick.refl _)
            · intro g254
              have g254' := g254; clear g254
              try simp only [decide_eq_true_eq, decide_eq_false_iff_not, Bool.not_eq_true', Bool.not_eq_false', Bool.and_eq_true, Bool.or_eq_true, Bool.and_eq_false_iff, Bool.or_eq_false_iff, Int.not_le, Int.not_lt] at g254'
              refine RunB.one (i := 10) (by kernel_rfl) ?_
              refine RunI.no rfl rfl rfl rfl (RunK.toB ?_)
              refine RunB.one (i := 11) (by kernel_rfl) ?_
              refine RunI.val rfl (Val.pure rfl) rfl rfl rfl (RunK.toB ?_)
              refine RunB.one (i := 12) (by kernel_rfl) ?_
              refine RunI.val rfl (Val.pure rfl) rfl rfl rfl (RunK.toB ?_)
              refine RunB.done (by kernel_rfl) ?_
              exact RunE.join0  (Sub.consE (t := 4) (v := .bool true) rfl (by first | rfl | (exfalso; omega)) (Sub.skip rfl (Sub.skip rfl (Sub.skip rfl (Sub.skip rfl (Sub.skip rfl (Sub.skip rfl (Sub.skip rfl (Sub.skip rfl (Sub.skip rfl (Sub.skip rfl (Sub.skip rfl (Sub.skip rfl (Sub.skip rfl (Sub.skip rfl (Sub.refl _)))))))))))))))) (.cons .here rfl (.cons .here rfl .nil))
          refine J0.out ?_
          refine RunE.next ?_
          refine RunC.ret ?_
          refine RunE.block_ret ?_
          refine RunE.pass_ret ?_
          refine RunE.pass_ret ?_
          refine RunE.block_ret ?_
          refine RunE.pass_ret ?_
          exact RunE.retP (.r1 rfl (.tmp rfl)) (by first | rfl | simp)
        · intro c12
          have c12' := c12; clear c12
          try simp only [decide_eq_true_eq, decide_eq_false_iff_not, Bool.not_eq_true', Bool.not_eq_false', Bool.and_eq_true, Bool.or_eq_true, Bool.and_eq_false_iff, Bool.or_eq_false_iff, Int.not_le, Int.not_lt] at c12'
          refine RunC.skip ?_
          refine RunE.block_normal ?_
          refine RunE.next ?_
          refine RunC.region ?_
          refine RunL.val (Val.add rfl rfl (IntWalk.i64_in _ ⟨by omega, by omega⟩)) rfl rfl rfl ?_
          refine RunL.val (Val.pure rfl) rfl rfl rfl ?_
          refine RunL.nil ?_
          exact RunE.round (by omega) (take_snocN hl2 hl3 lI (by rw [hx, hyy]; exact_mod_cast c12')) rfl (Sub.consE (t := 233) rfl rfl (Sub.cons (t := 2) rfl (Sub.cons (t := 5) rfl (Sub.cons (t := 14) rfl (Sub.cons (t := 232) rfl (Sub.nil _)))))) (.cons .here rfl (.cons .here rfl .nil))
      · intro c11
        have c11' := c11; clear c11
        try simp only [decide_eq_true_eq, decide_eq_false_iff_not, Bool.not_eq_true', Bool.not_eq_false', Bool.and_eq_true, Bool.or_eq_true, Bool.and_eq_false_iff, Bool.or_eq_false_iff, Int.not_le, Int.not_lt] at c11'
        refine RunC.exit ?_
        refine RunE.pass_exit ?_
        refine RunE.pass_exit ?_
        refine RunE.block_here ?_
        refine RunE.next ?_
        refine RunC.seq ?_
        refine RunC.region ?_
        refine RunL.callP (isCall_func rfl ent_13) rfl rfl rfl (fun w hm => hawake_calls w) ?_
        refine RunL.val (Val.pure rfl) rfl rfl rfl ?_
        refine RunL.nil ?_
        refine RunE.next ?_
        refine RunC.ret ?_
        exact RunE.retP (.r1 rfl (.tmp rfl)) (by first | rfl | simp)
theorem hfirst_calls (m : MxA) (ys : Str) (q : Option Addr) (b o cap : Nat) (W : World) (hM : MOk W m) (hS : Sl W q b o 1 (bytesV ys)) (hyl : ys.length ≤ 9223372036854775807) : Calls Tryd.prog 8 #[m.v, .slice q ys.length cap] W (Pure (.bool true) W) := by
  rcases Nat.eq_zero_or_pos ys.length with hy | hy
  · exact hfirst_far m ys q b o cap W hM (.inr hy)
  · cases hf : farX m.pl with
    | true => exact hfirst_far m ys q b o cap W hM (.inl hf)
    | false =>
      cases hX : mixedX m.pl with
      | false => exact hfirst_bad m ys q b o cap W hM hf hy hyl hX
      | true =>
        rcases Nat.eq_zero_or_pos (cntX m.pl) with h0 | h0
        · exact hfirst_none m ys q b o cap W hM hS hf hy hyl hX h0
        · exact hfirst_ok m ys q b o cap W hM hS hf hy hyl hX h0
end Go.Proofs.YtlhdalcipflblaaDoor
