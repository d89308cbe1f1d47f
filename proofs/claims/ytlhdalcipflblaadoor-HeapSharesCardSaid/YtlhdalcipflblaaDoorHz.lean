/- Layer 10, plain: the order of cards makes no difference. -/
import Derived.Test.YtlhdalcipflblaaDoorHw
set_option linter.unusedSimpArgs false
set_option linter.unusedVariables false
namespace Go.Hp
open Go Go.Eng Go.Pw1 Go.Proofs.YtlhdalcipflblaaDoor
def Mx.rev (m : Mx) : Mx := ⟨m.boxes, m.cards.reverse⟩
theorem fs_rev (m : Mx) : fsX m.rev = (fsX m).reverse := by
  show m.cards.reverse.map (fitsX m) = (m.cards.map (fitsX m)).reverse
  rw [List.map_reverse]
theorem ne_rev (m : Mx) : neX m.rev = neX m := rfl
theorem mixed_rev (m : Mx) : mixedX m.rev = mixedX m := by
  unfold mixedX Mx.rev
  simp
theorem rev_get {l : List Nat} {k : Nat} (hk : k < l.length) (d : Nat) : l.reverse.getD k d = l.getD (l.length - 1 - k) d := by
  have h1 : k < l.reverse.length := by simpa using hk
  have h2 : l.length - 1 - k < l.length := by omega
  simp only [List.getD_eq_getElem?_getD, List.getElem?_eq_getElem h1, List.getElem?_eq_getElem h2, Option.getD_some, List.getElem_reverse]
theorem nodup_rev {l : List Nat} (h : l.Nodup) : l.reverse.Nodup := by
  rw [List.nodup_iff_pairwise_ne, List.pairwise_reverse]
  exact h.imp fun h e => h e.symm
theorem way_rev {ne : Nat} {fs l : List Nat} (h : Way ne fs 0 l) : Way ne fs.reverse 0 l.reverse := by
  refine ⟨by simp [h.len], fun k hk => ?_, fun x _ => by simp, nodup_rev h.nd⟩
  have hk2 : k < l.length := by simpa using hk
  have h2 : l.length - 1 - k < l.length := by omega
  rw [List.getElem_reverse, rev_get (by rw [← h.len]; exact hk2), ← h.len]
  exact h.fit _ h2
theorem ways_rev (ne : Nat) (fs : List Nat) : (waysL ne fs.reverse 0).Perm ((waysL ne fs 0).map List.reverse) := by
  refine (List.perm_ext_iff_of_nodup (ways_nd _ _ _) (List.pairwise_map.2 ((ways_nd ne fs 0).imp fun h e => h (List.reverse_inj.1 e)))).2 fun l => ?_
  rw [ways_mem, List.mem_map]
  constructor
  · intro h
    refine ⟨l.reverse, ways_mem.2 ?_, List.reverse_reverse l⟩
    have := way_rev h
    rwa [List.reverse_reverse] at this
  · rintro ⟨x, hx, rfl⟩
    exact way_rev (ways_mem.1 hx)
theorem cnt_rev (ne : Nat) (fs : List Nat) : cntL ne fs.reverse 0 = cntL ne fs 0 := by
  rw [cnt_ways, cnt_ways, (ways_rev ne fs).length_eq, List.length_map]
theorem share_rev {ne : Nat} {fs : List Nat} {c : Nat} (hc : c < fs.length) (e : Nat) : shareL ne fs.reverse (fs.length - 1 - c) e = shareL ne fs c e := by
  rw [share_count (by simp; omega), share_count hc, (ways_rev ne fs).countP_eq, List.countP_map]
  refine List.countP_congr fun l hl => ?_
  have hw := (ways_mem.1 hl).len
  have e1 : l.reverse.getD (fs.length - 1 - c) ne = l.getD c ne := by
    rw [rev_get (by omega)]
    congr 1
    omega
  simp only [Function.comp, keyP, e1]
theorem used_rev {ne : Nat} {fs : List Nat} {e : Nat} (he : e < ne) : usedL ne fs.reverse e = usedL ne fs e := by
  rw [used_count he, used_count he, (ways_rev ne fs).countP_eq, List.countP_map]
  refine List.countP_congr fun l _ => ?_
  simp [Function.comp]
theorem cntX_rev (m : Mx) : cntX m.rev = cntX m := by
  unfold cntX
  rw [fs_rev, ne_rev, cnt_rev]
theorem waysE_rev (m : Mx) : waysE m.rev = waysE m := by
  unfold waysE
  rw [mixed_rev, cntX_rev]
theorem Count_rev (m : Mx) : CountX m.rev = CountX m := by
  unfold CountX
  rw [mixed_rev, cntX_rev]
theorem setOf_congr {p q : Nat → Bool} : ∀ {n : Nat}, (∀ k, k < n → p k = q k) → setOf p n = setOf q n
  | 0, _ => rfl
  | n + 1, h => by
    unfold setOf
    rw [h n (by omega), setOf_congr fun k hk => h k (by omega)]
theorem Lost_rev (m : Mx) : LostX m.rev = LostX m := by
  have e1 : lostX m.rev = lostX m := setOf_congr fun k hk => by
    show decide (usedL (neX m.rev) (fsX m.rev) k = 0) = _
    rw [fs_rev, used_rev hk]; rfl
  have e2 : canX m.rev = canX m := setOf_congr fun k hk => by
    show decide (usedL (neX m.rev) (fsX m.rev) k < cntX m.rev) = _
    rw [fs_rev, used_rev hk, cntX_rev]; rfl
  unfold LostX
  rw [waysE_rev, e1, e2]
theorem lastP_congr {p q : Nat → Bool} : ∀ {n : Nat}, (∀ k, k < n → p k = q k) → lastP p n = lastP q n
  | 0, _ => rfl
  | n + 1, h => by
    unfold lastP
    rw [h n (by omega), lastP_congr fun k hk => h k (by omega)]
theorem sure_rev (m : Mx) {c : Nat} (hc : c < m.cards.length) : sureC m.rev (m.cards.length - 1 - c) = sureC m c := by
  refine lastP_congr fun e _ => ?_
  unfold sureP
  rw [fs_rev, cntX_rev]
  have hl : m.cards.length = (fsX m).length := by simp [fsX]
  rw [hl] at hc ⊢
  rw [share_rev hc]
  rfl
theorem Sure_rev (m : Mx) : (SureX m.rev).2 = (SureX m).2 ∧ (SureX m.rev).1.length = (SureX m).1.length := by
  have hl : m.rev.cards.length = m.cards.length := by simp [Mx.rev]
  unfold SureX
  rw [waysE_rev]
  split
  · simp [hl]
  · simp
theorem Sure_at (m : Mx) {k : Nat} {x y : Int} (hk : k < (SureX m).1.length) (hk2 : (SureX m).1.length - 1 - k < (SureX m.rev).1.length) (hx : (SureX m).1[k] = x) (hy : (SureX m.rev).1[(SureX m).1.length - 1 - k] = y) : x = y := by
  subst hx
  subst hy
  by_cases hw : waysE m = 0
  · have e1 : (SureX m).1 = (List.range m.cards.length).map (sureC m) := by unfold SureX; rw [if_pos hw]
    have e2 : (SureX m.rev).1 = (List.range m.cards.length).map (sureC m.rev) := by
      unfold SureX
      rw [waysE_rev, if_pos hw]
      simp [Mx.rev]
    have e3 : (SureX m).1.length = m.cards.length := by rw [e1]; simp
    have hk3 : k < m.cards.length := by omega
    simp only [e1, e2, List.length_map, List.length_range, List.getElem_map, List.getElem_range]
    exact (sure_rev m hk3).symm
  · have e1 : (SureX m).1 = [] := by unfold SureX; rw [if_neg hw]
    rw [e1] at hk
    simp at hk
theorem short_rev {ne : Nat} (hn : ne ≤ 12) {fs : List Nat} (hf : ∀ f ∈ fs, f < 2 ^ ne) (hfl : fs.length ≤ 8) {s : Nat} (hs : s < 2 ^ fs.length) (h : shortX fs s = true) : ∃ t, t < 2 ^ fs.length ∧ shortX fs.reverse t = true ∧ pc t 12 = pc s 12 := by
  obtain ⟨S, hS⟩ : ∃ S, cardsOf fs.length s = S := ⟨_, rfl⟩
  have hSn : S.Nodup := hS ▸ List.nodup_range.filter _
  have hSb : ∀ c ∈ S, c < fs.length := fun c hc => by
    rw [← hS] at hc
    exact List.mem_range.1 (List.mem_filter.1 hc).1
  obtain ⟨T, hT⟩ : ∃ T, S.map (fs.length - 1 - ·) = T := ⟨_, rfl⟩
  have hTb : ∀ c ∈ T, c < fs.length := fun c hc => by
    rw [← hT] at hc
    obtain ⟨a, ha, rfl⟩ := List.mem_map.1 hc
    have := hSb a ha
    omega
  have hTn : T.Nodup := by
    rw [← hT, List.nodup_iff_pairwise_ne, List.pairwise_map]
    refine hSn.imp_of_mem fun {a b} ha hb hab e => hab ?_
    have h1 := hSb a ha
    have h2 := hSb b hb
    omega
  have hlt := setL_lt hTb
  have hfr : ∀ f ∈ fs.reverse, f < 2 ^ ne := fun f hf' => hf f (List.mem_reverse.1 hf')
  have e1 : (cardsOf fs.length (setL T)).length = T.length := nd_len (List.nodup_range.filter _) hTn (cards_setL hTb)
  have e2 : T.length = S.length := by rw [← hT, List.length_map]
  have e3 : nb ne (fitN fs.reverse) (cardsOf fs.length (setL T)) = nb ne (fitN fs) S := by
    unfold nb
    refine List.countP_congr fun e _ => ?_
    simp only [List.any_eq_true]
    constructor
    · rintro ⟨c, h2, h3⟩
      have h4 := (cards_setL hTb c).1 h2
      rw [← hT] at h4
      obtain ⟨a, ha, rfl⟩ := List.mem_map.1 h4
      have h5 := hSb a ha
      refine ⟨a, ha, ?_⟩
      unfold fitN at h3 ⊢
      rw [rev_get (by omega), show fs.length - 1 - (fs.length - 1 - a) = a by omega] at h3
      exact h3
    · rintro ⟨a, ha, h3⟩
      have h5 := hSb a ha
      refine ⟨fs.length - 1 - a, (cards_setL hTb _).2 (by rw [← hT]; exact List.mem_map.2 ⟨a, ha, rfl⟩), ?_⟩
      unfold fitN at h3 ⊢
      rw [rev_get (by omega), show fs.length - 1 - (fs.length - 1 - a) = a by omega]
      exact h3
  have e4 : pc (setL T) 12 = pc s 12 := by
    rw [← cards_len (by omega) hlt, ← cards_len (by omega) hs, e1, e2, hS]
  refine ⟨setL T, hlt, ?_, e4⟩
  have h6 := nb_union hn hfr (setL T)
  rw [List.length_reverse, e3] at h6
  have h7 := nb_union hn hf s
  rw [hS] at h7
  unfold shortX at h ⊢
  have h8 := of_decide_eq_true h
  exact decide_eq_true (by omega)
theorem why_rev {ne : Nat} (hn : ne ≤ 12) {fs : List Nat} (hf : ∀ f ∈ fs, f < 2 ^ ne) (hfl : fs.length ≤ 8) {s e s' e' : Nat} (h : WhyIs fs s e) (h' : WhyIs fs.reverse s' e') : e = e' ∧ pc s 12 = pc s' 12 := by
  have hfr : ∀ f ∈ fs.reverse, f < 2 ^ ne := fun f hf' => hf f (List.mem_reverse.1 hf')
  have a1 : ∀ t, t < 2 ^ fs.length → shortX fs t = true → 0 < s' ∧ pc s' 12 ≤ pc t 12 := fun t ht hs => by
    obtain ⟨u, hu, h1, h2⟩ := short_rev hn hf hfl ht hs
    obtain ⟨h3, h4⟩ := h'.min u (by rw [List.length_reverse]; exact hu) h1
    exact ⟨h3, by omega⟩
  have a2 : ∀ t, t < 2 ^ fs.length → shortX fs.reverse t = true → 0 < s ∧ pc s 12 ≤ pc t 12 := fun t ht hs => by
    obtain ⟨u, hu, h1, h2⟩ := short_rev hn hfr (by rw [List.length_reverse]; exact hfl) (by rw [List.length_reverse]; exact ht) hs
    rw [List.reverse_reverse] at h1
    rw [List.length_reverse] at hu
    obtain ⟨h3, h4⟩ := h.min u hu h1
    exact ⟨h3, by omega⟩
  have hl := h.lt
  have hl' := h'.lt
  rw [List.length_reverse] at hl'
  rcases h.se with ⟨b1, b2⟩ | ⟨b1, b2, b3⟩
  · rcases h'.se with ⟨c1, c2⟩ | ⟨c1, c2, c3⟩
    · subst b1 c1; omega
    · have := (a2 s' hl' c3).1; omega
  · rcases h'.se with ⟨c1, c2⟩ | ⟨c1, c2, c3⟩
    · have := (a1 s hl b3).1; omega
    · have := (a1 s hl b3).2
      have := (a2 s' hl' c3).2
      omega
theorem card_rev (m : Mx) (hX : mixedX m = true) (c : Int) (hc : -9223372036854775808 ≤ c ∧ c ≤ 9223372036854775807) : FitsX m.rev (IntKind.i64.wrap ((m.cards.length : Int) - 1 - c)) = FitsX m c ∧ ∀ e, ShareX m.rev (IntKind.i64.wrap ((m.cards.length : Int) - 1 - c)) e = ShareX m c e := by
  have hl : m.rev.cards.length = m.cards.length := by simp [Mx.rev]
  have hfl : (fsX m).length = m.cards.length := by simp [fsX]
  have h8 : m.cards.length ≤ 8 := by
    unfold mixedX at hX
    simp only [Bool.and_eq_true, decide_eq_true_eq] at hX
    exact hX.1.1.1.2
  by_cases hin : 0 ≤ c ∧ c ≤ (m.cards.length : Int) - 1
  · obtain ⟨k, rfl⟩ : ∃ k : Nat, c = (k : Int) := ⟨c.toNat, by omega⟩
    have hk : k < m.cards.length := by omega
    have ew : IntKind.i64.wrap ((m.cards.length : Int) - 1 - (k : Int)) = ((m.cards.length - 1 - k : Nat) : Int) := by
      rw [show (m.cards.length : Int) - 1 - (k : Int) = ((m.cards.length - 1 - k : Nat) : Int) by omega]
      exact i64_inN (by omega)
    have c1 : cardX m (k : Int) = true := by unfold cardX within; simp; omega
    have c2 : cardX m.rev ((m.cards.length - 1 - k : Nat) : Int) = true := by unfold cardX within; rw [hl]; simp; omega
    rw [ew]
    constructor
    · unfold FitsX
      rw [mixed_rev, if_pos hX, if_pos hX, if_pos c1, if_pos c2, fs_rev]
      simp only [Int.toNat_natCast]
      rw [rev_get (by omega), hfl, show m.cards.length - 1 - (m.cards.length - 1 - k) = k by omega]
    · intro e
      unfold ShareX
      have he : entryX m.rev e = entryX m e := rfl
      rw [mixed_rev, if_pos hX, if_pos hX, c1, c2, he, fs_rev, ne_rev]
      simp only [Int.toNat_natCast]
      have := share_rev (ne := neX m) (fs := fsX m) (c := k) (by omega) e.toNat
      rw [hfl] at this
      rw [this]
  · have c1 : cardX m c = false := by unfold cardX within; simp; omega
    have c2 : cardX m.rev (IntKind.i64.wrap ((m.cards.length : Int) - 1 - c)) = false := by
      rw [IntKind.wrap_i64]
      unfold cardX within
      rw [hl]
      simp
      omega
    constructor
    · unfold FitsX
      rw [mixed_rev, c1, c2]
      rfl
    · intro e
      unfold ShareX
      rw [mixed_rev, c1, c2]
      rfl
end Go.Hp
