/- Layer 10, plain: if more of a card is read, and without a card. -/
import Derived.Test.YtlhdalcipflblaaDoorW04
set_option linter.unusedSimpArgs false
set_option linter.unusedVariables false
namespace Go.Hp
open Go Go.Eng Go.Pw1 Go.Proofs.YtlhdalcipflblaaDoor
/-! ## More of a text -/
inductive Rf : Str → Str → Prop
  | nil : Rf [] []
  | cons {a b : UInt8} {l l' : Str} (h : (a.toNat = 63 ∧ b.toNat ≠ 42) ∨ a = b) (hl : Rf l l') : Rf (a :: l) (b :: l')
theorem Rf.refl : ∀ l, Rf l l
  | [] => .nil
  | _ :: l => .cons (.inr rfl) (Rf.refl l)
theorem Rf.len {l l' : Str} (h : Rf l l') : l'.length = l.length := by induction h <;> simp [*]
theorem Rf.star {l l' : Str} (h : Rf l l') : starAt l' = starAt l := by
  induction h with
  | nil => rfl
  | cons h _ ih =>
    unfold starAt
    rw [ih]
    rcases h with ⟨h1, h2⟩ | rfl
    · have h3 : ¬ (_ : UInt8).toNat = 42 := fun e => by rw [h1] at e; cases e
      rw [if_neg h2, if_neg h3]
    · rfl
theorem Rf.take {l l' : Str} (h : Rf l l') : ∀ i, Rf (l.take i) (l'.take i) := by
  induction h with
  | nil => intro i; simp; exact .nil
  | cons h _ ih =>
    intro i
    cases i with
    | zero => exact .nil
    | succ i => exact .cons h (ih i)
theorem Rf.drop {l l' : Str} (h : Rf l l') : ∀ i, Rf (l.drop i) (l'.drop i) := by
  induction h with
  | nil => intro i; simp; exact .nil
  | cons h hl ih =>
    intro i
    cases i with
    | zero => exact .cons h hl
    | succ i => exact ih i
theorem Rf.suitsW {l l' : Str} (h : Rf l l') : ∀ {s : Str}, suitsW l' s = true → suitsW l s = true := by
  induction h with
  | nil => intro s hs; exact hs
  | cons h _ ih =>
    intro s hs
    cases s with
    | nil => simp [Hp.suitsW] at hs
    | cons c s =>
      simp only [Hp.suitsW, Bool.and_eq_true, Bool.or_eq_true, decide_eq_true_eq] at hs ⊢
      refine ⟨?_, ih hs.2⟩
      rcases h with ⟨h1, _⟩ | rfl
      · exact .inl h1
      · exact hs.1
theorem Rf.suits {l l' s : Str} (h : Rf l l') (hs : suitsX l' s = true) : suitsX l s = true := by
  unfold suitsX at hs ⊢
  rw [h.star] at hs
  cases hst : starAt l with
  | none => rw [hst] at hs; exact h.suitsW hs
  | some i =>
    rw [hst] at hs
    simp only [suitsE, Bool.and_eq_true, decide_eq_true_eq] at hs ⊢
    obtain ⟨⟨h1, h2⟩, h3⟩ := hs
    rw [(h.take i).len] at h1 h2
    rw [(h.drop (i + 1)).len] at h1 h3
    exact ⟨⟨h1, (h.take i).suitsW h2⟩, (h.drop (i + 1)).suitsW h3⟩
/-- The first byte that can't be read is another one. -/
def repl1 (c : UInt8) : Str → Str
  | [] => []
  | a :: l => if a.toNat = 63 then c :: l else a :: repl1 c l
theorem repl1_rf {c : UInt8} (hc : c.toNat ≠ 42) : ∀ l, Rf l (repl1 c l)
  | [] => .nil
  | a :: l => by
    unfold repl1
    split
    · rename_i h; exact .cons (.inl ⟨h, hc⟩) (Rf.refl l)
    · exact .cons (.inr rfl) (repl1_rf hc l)
theorem repl1_none {c : UInt8} : ∀ {l : Str}, (∀ k (h : k < l.length), l[k].toNat ≠ 63) → repl1 c l = l
  | [], _ => rfl
  | a :: l, h => by
    unfold repl1
    rw [if_neg (show ¬ a.toNat = 63 from h 0 (by simp)), repl1_none fun k hk => h (k + 1) (by simpa using hk)]
theorem repl1_at {c : UInt8} : ∀ {l : Str} {j : Nat} (hj : j < l.length), (∀ k (h : k < l.length), k < j → l[k].toNat ≠ 63) → l[j].toNat = 63 → repl1 c l = l.set j c
  | a :: l, 0, _, _, h => by
    simp only [List.getElem_cons_zero] at h
    unfold repl1
    rw [if_pos h]
    rfl
  | a :: l, j + 1, hj, h, h2 => by
    unfold repl1
    rw [if_neg (show ¬ a.toNat = 63 from h 0 (by simp) (by omega)), repl1_at (by simpa using hj) (fun k hk hkj => h (k + 1) (by simpa using hk) (by omega)) (by simpa using h2)]
    rfl
/-- A star is another byte. -/
def replA (c : UInt8) (l : Str) : Str := l.map fun a => if a.toNat = 42 then c else a
theorem starAt_none : ∀ {l : Str}, l.countP starX = 0 → starAt l = none
  | [], _ => rfl
  | a :: l, h => by
    rw [List.countP_cons] at h
    have h1 : starX a = false := by cases hs : starX a <;> simp_all
    have h2 := starAt_none (l := l) (by omega)
    unfold starAt
    have h3 : ¬ a.toNat = 42 := by
      unfold starX at h1
      rw [decide_eq_false_iff_not] at h1
      omega
    rw [if_neg h3, h2]
    rfl
theorem replA_none {c : UInt8} : ∀ {l : Str}, l.countP starX = 0 → replA c l = l
  | [], _ => rfl
  | a :: l, h => by
    rw [List.countP_cons] at h
    have h1 : starX a = false := by cases hs : starX a <;> simp_all
    have h2 := replA_none (c := c) (l := l) (by omega)
    have h3 : ¬ a.toNat = 42 := by
      unfold starX at h1
      rw [decide_eq_false_iff_not] at h1
      omega
    show (if a.toNat = 42 then c else a) :: replA c l = _
    rw [if_neg h3, h2]
theorem replA_star {c : UInt8} : ∀ {l : Str} {i : Nat}, starAt l = some i → l.countP starX ≤ 1 → replA c l = l.take i ++ c :: l.drop (i + 1)
  | a :: l, i, h, hc => by
    rw [List.countP_cons] at hc
    unfold starAt at h
    by_cases ha : a.toNat = 42
    · rw [if_pos ha] at h
      cases h
      have h1 : starX a = true := by unfold starX; exact decide_eq_true (by omega)
      rw [h1] at hc
      simp only [if_true] at hc
      show (if a.toNat = 42 then c else a) :: replA c l = _
      rw [if_pos ha, replA_none (by omega)]
      rfl
    · rw [if_neg ha] at h
      cases hs : starAt l with
      | none => rw [hs] at h; cases h
      | some j =>
        rw [hs] at h
        simp only [Option.map_some, Option.some.injEq] at h
        subst h
        have h1 := replA_star (c := c) hs (by omega)
        show (if a.toNat = 42 then c else a) :: replA c l = _
        rw [if_neg ha, h1]
        rfl
theorem suitsW_app {a b s : Str} (h : suitsW (a ++ b) s = true) : a.length + b.length = s.length ∧ suitsW a (s.take a.length) = true ∧ suitsW b (s.drop a.length) = true := by
  obtain ⟨h1, h2⟩ := suitsW_iff.1 h
  rw [List.length_append] at h1
  refine ⟨h1, suitsW_iff.2 ⟨by simp; omega, fun k hk hk2 => ?_⟩, suitsW_iff.2 ⟨by simp; omega, fun k hk hk2 => ?_⟩⟩
  · have := h2 k (by simp; omega) (by omega)
    rw [List.getElem_append_left hk] at this
    rw [List.getElem_take]
    exact this
  · have := h2 (a.length + k) (by simp; omega) (by omega)
    rw [List.getElem_append_right (by omega)] at this
    rw [List.getElem_drop]
    simpa using this
theorem replA_len (c : UInt8) (l : Str) : (replA c l).length = l.length := by simp [replA]
theorem replA_count {c : UInt8} (hc : c.toNat ≠ 42) : ∀ l : Str, (replA c l).countP starX = 0
  | [] => rfl
  | a :: l => by
    show List.countP starX ((if a.toNat = 42 then c else a) :: replA c l) = 0
    rw [List.countP_cons, replA_count hc l]
    have : starX (if a.toNat = 42 then c else a) = false := by
      unfold starX
      refine decide_eq_false ?_
      split <;> omega
    simp [this]
theorem replA_suits {c : UInt8} (hc : c.toNat ≠ 42) {l s : Str} (hl : l.countP starX ≤ 1) (h : suitsX (replA c l) s = true) : suitsX l s = true := by
  have h0 := starAt_none (replA_count hc l)
  unfold suitsX at h ⊢
  rw [h0] at h
  cases hst : starAt l with
  | none =>
    have h1 : l.countP starX = 0 := by
      rcases Nat.eq_zero_or_pos (l.countP starX) with h2 | h2
      · exact h2
      · exfalso
        obtain ⟨a, ha, hs⟩ := List.countP_pos_iff.1 h2
        have : ∀ {l : Str}, starAt l = none → ∀ a ∈ l, starX a = false := by
          intro l
          induction l with
          | nil => intro _ a ha; cases ha
          | cons b l ih =>
            intro hn a ha
            unfold starAt at hn
            split at hn
            · cases hn
            · rename_i hb
              cases hs : starAt l with
              | some j => rw [hs] at hn; cases hn
              | none =>
                rcases List.mem_cons.1 ha with rfl | ha
                · unfold starX; exact decide_eq_false (by omega)
                · exact ih hs a ha
        rw [this hst a ha] at hs
        cases hs
    rw [replA_none h1] at h
    exact h
  | some i =>
    rw [replA_star hst hl] at h
    obtain ⟨h1, h2, h3⟩ := suitsW_app h
    rw [List.length_cons] at h1
    simp only [suitsE, Bool.and_eq_true, decide_eq_true_eq]
    refine ⟨⟨by omega, h2⟩, ?_⟩
    cases hd : s.drop (l.take i).length with
    | nil => rw [hd] at h3; simp [Hp.suitsW] at h3
    | cons x y =>
      rw [hd] at h3
      simp only [Hp.suitsW, Bool.and_eq_true] at h3
      have e : s.drop (s.length - (l.drop (i + 1)).length) = y := by
        have h5 : s.length - (l.drop (i + 1)).length = (l.take i).length + 1 := by omega
        rw [h5, ← List.drop_drop, hd]
        rfl
      rw [e]
      exact h3.2
/-! ## Still pieces -/
theorem piece_iff (p : Str) : pieceX p = true ↔ p.length ≤ 12 ∧ p.all goodX = true ∧ p.countP starX ≤ 1 := by
  unfold pieceX
  rw [Bool.and_eq_true, Bool.and_eq_true, decide_eq_true_eq, decide_eq_true_eq, decide_eq_true_eq, all_count, decide_eq_true_eq, and_assoc]
theorem repl1_good {c : UInt8} (hg : goodX c = true) (hs : starX c = false) : ∀ {l : Str}, l.all goodX = true → (repl1 c l).all goodX = true ∧ (repl1 c l).countP starX ≤ l.countP starX ∧ (repl1 c l).length = l.length
  | [], _ => ⟨rfl, Nat.le_refl _, rfl⟩
  | a :: l, h => by
    rw [List.all_cons, Bool.and_eq_true] at h
    obtain ⟨h1, h2, h3⟩ := repl1_good hg hs h.2
    unfold repl1
    split
    · refine ⟨by rw [List.all_cons, hg, h.2]; rfl, ?_, rfl⟩
      rw [List.countP_cons, List.countP_cons, hs]
      simp
    · refine ⟨by rw [List.all_cons, h.1, h1]; rfl, ?_, by simp [h3]⟩
      rw [List.countP_cons, List.countP_cons]
      omega
theorem repl1_piece {c : UInt8} (hg : goodX c = true) (hs : starX c = false) {p : Str} (h : pieceX p = true) : pieceX (repl1 c p) = true := by
  obtain ⟨h1, h2, h3⟩ := (piece_iff p).1 h
  obtain ⟨g1, g2, g3⟩ := repl1_good hg hs h2
  exact (piece_iff _).2 ⟨by omega, g1, by omega⟩
theorem replA_piece {c : UInt8} (hg : goodX c = true) (hs : c.toNat ≠ 42) {p : Str} (h : pieceX p = true) : pieceX (replA c p) = true := by
  obtain ⟨h1, h2, h3⟩ := (piece_iff p).1 h
  refine (piece_iff _).2 ⟨by rw [replA_len]; exact h1, ?_, by rw [replA_count hs]; omega⟩
  rw [List.all_eq_true] at h2 ⊢
  intro x hx
  obtain ⟨a, ha, rfl⟩ := List.mem_map.1 hx
  split
  · exact hg
  · exact h2 a ha
/-- A card of which more is read. -/
structure More (t y : Tn) : Prop where
  ok : badCard t = false → badCard y = false
  fit : badCard t = false → ∀ e, fitX y e = true → fitX t e = true
  sm : y.number.length = t.number.length ∧ y.text.length = t.text.length
theorem More.refl (t : Tn) : More t t := ⟨id, fun _ _ h => h, rfl, rfl⟩
theorem bad_iff (t : Tn) : badCard t = false ↔ within t.colour 0 9 = true ∧ pieceX t.number = true ∧ pieceX t.text = true := by
  unfold badCard
  simp [and_assoc]
theorem More.colour {t : Tn} (h : t.colour = 0) {c : Int} (hc : 1 ≤ c ∧ c ≤ 9) : More t { t with colour := c } := by
  refine ⟨fun hb => ?_, fun _ e hf => ?_, rfl, rfl⟩
  · rw [bad_iff] at hb ⊢
    refine ⟨?_, hb.2⟩
    unfold within
    rw [Bool.and_eq_true, decide_eq_true_eq, decide_eq_true_eq]
    exact ⟨by show 0 ≤ c; omega, hc.2⟩
  · unfold fitX at hf ⊢
    simp only [Bool.and_eq_true] at hf ⊢
    exact ⟨⟨by simp [h], hf.1.2⟩, hf.2⟩
theorem More.text (t : Tn) {c : UInt8} (hg : goodX c = true) (hs : starX c = false) : More t { t with text := repl1 c t.text } := by
  have hc : c.toNat ≠ 42 := by
    unfold starX at hs
    rw [decide_eq_false_iff_not] at hs
    omega
  refine ⟨fun hb => ?_, fun _ e hf => ?_, rfl, (repl1_rf hc t.text).len⟩
  · rw [bad_iff] at hb ⊢
    exact ⟨hb.1, hb.2.1, repl1_piece hg hs hb.2.2⟩
  · unfold fitX at hf ⊢
    simp only [Bool.and_eq_true] at hf ⊢
    exact ⟨hf.1, (repl1_rf hc t.text).suits hf.2⟩
theorem More.number (t : Tn) {c : UInt8} (hg : goodX c = true) (hs : c.toNat ≠ 42) : More t { t with number := replA c t.number } := by
  refine ⟨fun hb => ?_, fun hb e hf => ?_, replA_len _ _, rfl⟩
  · rw [bad_iff] at hb ⊢
    exact ⟨hb.1, replA_piece hg hs hb.2.1, hb.2.2⟩
  · rw [bad_iff] at hb
    unfold fitX at hf ⊢
    simp only [Bool.and_eq_true] at hf ⊢
    exact ⟨⟨hf.1.1, replA_suits hs ((piece_iff _).1 hb.2.1).2.2 hf.1.2⟩, hf.2⟩
/-! ## Ways -/
theorem way_mono {ne : Nat} {fs fs' l : List Nat} (hl : fs'.length = fs.length) (hb : ∀ k x, (fs'.getD k 0).testBit x = true → (fs.getD k 0).testBit x = true) (h : Way ne fs' 0 l) : Way ne fs 0 l :=
  ⟨by rw [← hl]; exact h.len, fun k hk => ⟨(h.fit k hk).1, hb k _ (h.fit k hk).2⟩, h.new, h.nd⟩
theorem cnt_mono {ne : Nat} {fs fs' : List Nat} (hl : fs'.length = fs.length) (hb : ∀ k x, (fs'.getD k 0).testBit x = true → (fs.getD k 0).testBit x = true) : cntL ne fs' 0 ≤ cntL ne fs 0 := by
  rw [cnt_ways, cnt_ways]
  exact (ways_nd _ _ _).length_le_of_subset fun l h => ways_mem.2 (way_mono hl hb (ways_mem.1 h))
theorem share_mono {ne : Nat} {fs fs' : List Nat} (hl : fs'.length = fs.length) (hb : ∀ k x, (fs'.getD k 0).testBit x = true → (fs.getD k 0).testBit x = true) {c : Nat} (hc : c < fs.length) (e : Nat) : shareL ne fs' c e ≤ shareL ne fs c e := by
  rw [share_count (by omega), share_count hc, List.countP_eq_length_filter, List.countP_eq_length_filter]
  have hnd : ((waysL ne fs' 0).filter (keyP ne c e)).Nodup := (ways_nd _ _ _).filter _
  refine hnd.length_le_of_subset fun l h => ?_
  obtain ⟨h1, h2⟩ := List.mem_filter.1 h
  exact List.mem_filter.2 ⟨ways_mem.2 (way_mono hl hb (ways_mem.1 h1)), h2⟩
theorem erase_get {l : List Nat} {n k : Nat} (d : Nat) : (l.eraseIdx n).getD k d = if k < n then l.getD k d else l.getD (k + 1) d := by
  simp only [List.getD_eq_getElem?_getD, List.getElem?_eraseIdx]
  split <;> rfl
theorem way_erase {ne : Nat} {fs l : List Nat} {n : Nat} (hn : n < fs.length) (h : Way ne fs 0 l) : Way ne (fs.eraseIdx n) 0 (l.eraseIdx n) := by
  have hll := h.len
  refine ⟨by rw [List.length_eraseIdx, List.length_eraseIdx, hll], fun k hk => ?_, fun x _ => by simp, (List.eraseIdx_sublist l n).nodup h.nd⟩
  have hk2 : k < l.length - 1 := by
    rw [List.length_eraseIdx, if_pos (by omega)] at hk
    exact hk
  rw [List.getElem_eraseIdx, erase_get]
  split
  · exact h.fit k (by omega)
  · exact h.fit (k + 1) (by omega)
theorem cnt_erase {ne : Nat} {fs : List Nat} {n : Nat} (hn : n < fs.length) (h : 0 < cntL ne fs 0) : 0 < cntL ne (fs.eraseIdx n) 0 := by
  obtain ⟨l, hl⟩ := pos_way h
  exact way_pos (way_erase hn hl)
theorem share_erase {ne : Nat} {fs : List Nat} {n k z e : Nat} (hn : n < fs.length) (hk : k < fs.length) (hkn : k ≠ n) (hz : z = if n < k then k - 1 else k) (h : 0 < shareL ne fs k e) : 0 < shareL ne (fs.eraseIdx n) z e := by
  obtain ⟨l, hl, he⟩ := (share_pos hk).1 h
  refine (share_pos (by rw [List.length_eraseIdx, if_pos hn]; subst hz; split <;> omega)).2 ⟨_, way_erase hn hl, ?_⟩
  rw [erase_get, ← he]
  subst hz
  by_cases h1 : n < k
  · rw [if_pos h1, if_neg (by omega), show k - 1 + 1 = k by omega]
  · rw [if_neg h1, if_pos (by omega)]
end Go.Hp
/- Layer 10, plain: the reference's pieces, and which cards have too few entries. -/
set_option linter.unusedSimpArgs false
set_option linter.unusedVariables false
namespace Go.Hp
open Go Go.Eng Go.Pw1 Go.Proofs.YtlhdalcipflblaaDoor
def suitsR : Str → Str → Bool
  | [], s => s.isEmpty
  | a :: p, s => if a.toNat = 42 then (List.range (s.length + 1)).any fun i => suitsR p (s.drop i) else match s with
    | [] => false
    | c :: s => (decide (a.toNat = 63) || decide (a = c)) && suitsR p s
theorem suitsR_W : ∀ {p s : Str}, p.countP starX = 0 → suitsR p s = suitsW p s
  | [], [], _ => rfl
  | [], _ :: _, _ => rfl
  | a :: p, s, h => by
    rw [List.countP_cons] at h
    have h1 : starX a = false := by cases hs : starX a <;> simp_all
    have h3 : ¬ a.toNat = 42 := by
      unfold starX at h1
      rw [decide_eq_false_iff_not] at h1
      omega
    unfold suitsR
    rw [if_neg h3]
    cases s with
    | nil => rfl
    | cons c s =>
      show ((decide (a.toNat = 63) || decide (a = c)) && suitsR p s) = ((decide (a.toNat = 63) || decide (a = c)) && suitsW p s)
      rw [suitsR_W (by omega)]
theorem any_len {p s : Str} : ((List.range (s.length + 1)).any fun i => suitsW p (s.drop i)) = (decide (p.length ≤ s.length) && suitsW p (s.drop (s.length - p.length))) := by
  rw [Bool.eq_iff_iff, List.any_eq_true, Bool.and_eq_true, decide_eq_true_eq]
  constructor
  · rintro ⟨i, hi, h⟩
    have hi := List.mem_range.1 hi
    have h1 := (suitsW_iff.1 h).1
    rw [List.length_drop] at h1
    refine ⟨by omega, ?_⟩
    rw [show s.length - p.length = i by omega]
    exact h
  · rintro ⟨h1, h2⟩
    exact ⟨s.length - p.length, List.mem_range.2 (by omega), h2⟩
theorem suitsR_E : ∀ {p s : Str} {i : Nat}, starAt p = some i → p.countP starX ≤ 1 → suitsR p s = suitsE (p.take i) (p.drop (i + 1)) s
  | a :: p, s, i, h, hc => by
    rw [List.countP_cons] at hc
    unfold starAt at h
    by_cases ha : a.toNat = 42
    · rw [if_pos ha] at h
      cases h
      have h1 : starX a = true := by unfold starX; exact decide_eq_true (by omega)
      rw [h1] at hc
      simp only [if_true] at hc
      unfold suitsR
      rw [if_pos ha]
      have e : (fun i => suitsR p (s.drop i)) = fun i => suitsW p (s.drop i) := funext fun i => suitsR_W (by omega)
      rw [e, any_len]
      unfold suitsE
      simp [suitsW]
    · rw [if_neg ha] at h
      cases hs : starAt p with
      | none => rw [hs] at h; cases h
      | some j =>
        rw [hs] at h
        simp only [Option.map_some, Option.some.injEq] at h
        subst h
        unfold suitsR
        rw [if_neg ha]
        cases s with
        | nil => unfold suitsE; simp
        | cons c s =>
          show ((decide (a.toNat = 63) || decide (a = c)) && suitsR p s) = _
          rw [suitsR_E hs (by omega)]
          unfold suitsE
          simp only [List.take_succ_cons, List.drop_succ_cons, List.length_cons, suitsW]
          by_cases hle : (p.take j).length + (p.drop (j + 1)).length ≤ s.length
          · have e1 : (p.take j).length + 1 + (p.drop (j + 1)).length ≤ s.length + 1 := by omega
            have e2 : s.length + 1 - (p.drop (j + 1)).length = (s.length - (p.drop (j + 1)).length) + 1 := by omega
            rw [e2, List.drop_succ_cons, decide_eq_true hle, decide_eq_true e1]
            simp only [Bool.true_and, Bool.and_assoc]
          · have e1 : ¬ (p.take j).length + 1 + (p.drop (j + 1)).length ≤ s.length + 1 := by omega
            rw [decide_eq_false hle, decide_eq_false e1]
            simp
theorem starAt_no : ∀ {l : Str}, starAt l = none → l.countP starX = 0
  | [], _ => rfl
  | a :: l, h => by
    unfold starAt at h
    split at h
    · cases h
    · rename_i ha
      cases hs : starAt l with
      | some j => rw [hs] at h; cases h
      | none =>
        rw [List.countP_cons, starAt_no hs]
        have : starX a = false := by unfold starX; exact decide_eq_false (by omega)
        simp [this]
theorem suitsR_X {p s : Str} (h : p.countP starX ≤ 1) : suitsR p s = suitsX p s := by
  unfold suitsX
  cases hs : starAt p with
  | none => exact suitsR_W (starAt_no hs)
  | some i => exact suitsR_E hs h
theorem or_add {a k : Nat} (h : a < 2 ^ k) : a ||| 2 ^ k = a + 2 ^ k := by
  have := Nat.two_pow_add_eq_or_of_lt h 1
  rw [Nat.mul_one] at this
  rw [Nat.or_comm, ← this, Nat.add_comm]
theorem fit_at {m : MxA} {k j : Nat} {c : Tn} {e : En} (hk : k < m.cards.length) (hc : m.cards[k] = c) (hj : j < (esX m).length) (he : (esX m)[j] = e) : fitX c e = ((fsX m.pl).getD k 0).testBit j := by
  have hk2 : k < (fsX m.pl).length := by rw [fs_len]; exact hk
  have e1 : (fsX m.pl)[k] = fitsX m.pl c := by
    have : (m.cards.map (fitsX m.pl))[k]'(by simpa using hk) = fitsX m.pl c := by rw [List.getElem_map, hc]
    exact this
  rw [getD_at hk2 e1, fits_bit]
  have e2 : (entriesX m.pl.boxes)[j]? = some e := by
    show (esX m)[j]? = some e
    rw [List.getElem?_eq_getElem hj, he]
  rw [e2]
  rfl
/-- How many entries cards of a set fit, as the reference counts. -/
def anyC (fs : List Nat) (s e i : Nat) : Bool := (List.range i).any fun c => s.testBit c && (fs.getD c 0).testBit e
def cntE (fs : List Nat) (s x : Nat) : Nat := (List.range x).countP fun e => anyC fs s e fs.length
theorem anyC_s (fs : List Nat) (s e i : Nat) : anyC fs s e (i + 1) = (anyC fs s e i || (s.testBit i && (fs.getD i 0).testBit e)) := by
  unfold anyC
  rw [List.range_succ, List.any_append]
  simp
theorem cntE_s (fs : List Nat) (s x : Nat) : cntE fs s (x + 1) = cntE fs s x + if anyC fs s x fs.length then 1 else 0 := by
  unfold cntE
  rw [List.range_succ, List.countP_append]
  simp [List.countP_cons]
theorem cntE_le (fs : List Nat) (s x : Nat) : cntE fs s x ≤ x := by
  unfold cntE
  have := List.countP_le_length (p := fun e => anyC fs s e fs.length) (l := List.range x)
  rw [List.length_range] at this
  exact this
theorem cntE_short {ne : Nat} (hn : ne ≤ 12) {fs : List Nat} (hf : ∀ f ∈ fs, f < 2 ^ ne) (s : Nat) : shortX fs s = decide (cntE fs s ne < pc s 12) := by
  have e : cntE fs s ne = pc (unionL s 0 fs) 12 := by
    rw [pc_top12 hn (unionL_lt s fs 0 hf)]
    unfold cntE
    refine List.countP_congr fun e _ => ?_
    rw [union_bit]
    unfold anyC
    simp
  unfold shortX
  rw [e]
/-- The best set so far. -/
def BestS (fs : List Nat) (k b : Nat) : Prop := (b = 0 ∧ ∀ t, 0 < t → t < k → shortX fs t = false) ∨ (0 < b ∧ b < k ∧ shortX fs b = true ∧ ∀ t, 0 < t → t < k → shortX fs t = true → pc b 12 < pc t 12 ∨ (pc b 12 = pc t 12 ∧ b ≤ t))
theorem BestS.start (fs : List Nat) : BestS fs 1 0 := .inl ⟨rfl, fun t h1 h2 => by omega⟩
theorem BestS.yes {fs : List Nat} {k b : Nat} (hk : 0 < k) (h : BestS fs k b) (hs : shortX fs k = true) (hb : b = 0 ∨ pc k 12 < pc b 12) : BestS fs (k + 1) k := by
  refine .inr ⟨hk, by omega, hs, fun t h1 h2 h3 => ?_⟩
  by_cases e : t = k
  · subst e; exact .inr ⟨rfl, Nat.le_refl _⟩
  · rcases h with ⟨h4, h5⟩ | ⟨h4, h5, h6, h7⟩
    · rw [h5 t h1 (by omega)] at h3; cases h3
    · have := h7 t h1 (by omega) h3
      omega
theorem BestS.no {fs : List Nat} {k b : Nat} (h : BestS fs k b) (hs : shortX fs k = true → b ≠ 0 ∧ pc b 12 ≤ pc k 12) : BestS fs (k + 1) b := by
  rcases h with ⟨h4, h5⟩ | ⟨h4, h5, h6, h7⟩
  · refine .inl ⟨h4, fun t h1 h2 => ?_⟩
    by_cases e : t = k
    · subst e
      cases hsh : shortX fs t with
      | false => rfl
      | true => exact absurd h4 (hs hsh).1
    · exact h5 t h1 (by omega)
  · refine .inr ⟨h4, by omega, h6, fun t h1 h2 h3 => ?_⟩
    by_cases e : t = k
    · subst e
      have := (hs h3).2
      omega
    · exact h7 t h1 (by omega) h3
theorem BestS.why {fs : List Nat} {b s e : Nat} (h : BestS fs (2 ^ fs.length) b) (hI : WhyIs fs s e) : b = s := by
  rcases h with ⟨h4, h5⟩ | ⟨h4, h5, h6, h7⟩
  · rcases hI.se with ⟨h1, _⟩ | ⟨h1, _, h2⟩
    · omega
    · rw [h5 s h1 hI.lt] at h2; cases h2
  · have h8 := hI.min b h5 h6
    rcases hI.se with ⟨h1, _⟩ | ⟨h1, _, h2⟩
    · omega
    · have := h7 s h1 hI.lt h2
      omega
theorem BestS.lt {fs : List Nat} {k b : Nat} (h : BestS fs k b) (hk : 0 < k) : b < k := by
  rcases h with ⟨h4, _⟩ | ⟨_, h5, _⟩ <;> omega
theorem card_good {m : MxA} (hX : mixedX m.pl = true) {c : Tn} (hc : c ∈ m.cards) : c.number.countP starX ≤ 1 ∧ c.text.countP starX ≤ 1 := by
  rw [mixed_eq] at hX
  simp only [Bool.and_eq_true, Bool.not_eq_true', List.any_eq_false] at hX
  have h1 := hX.2 c hc
  have h2 : badCard c = false := by simpa using h1
  rw [bad_iff] at h2
  exact ⟨((piece_iff _).1 h2.2.1).2.2, ((piece_iff _).1 h2.2.2).2.2⟩
end Go.Hp
/- Walks of the reference of layer 10: Suits, Fit, fits, check, Fits, Why; HeapFits. -/
set_option linter.unusedSimpArgs false
set_option linter.unusedVariables false
namespace Go.Hp
open Go Go.Eng Go.Pw1
theorem suitsR_nil (s : Str) : suitsR [] s = decide (s = []) := by cases s <;> simp [suitsR]
theorem suitsR_star {a : UInt8} {p s : Str} (h : a.toNat = 42) : suitsR (a :: p) s = (List.range (s.length + 1)).any fun i => suitsR p (s.drop i) := by
  conv => lhs; unfold suitsR
  rw [if_pos h]
theorem suitsR_else {a c : UInt8} {p s : Str} (h : ¬ a.toNat = 42) : suitsR (a :: p) (c :: s) = ((decide (a.toNat = 63) || decide (a = c)) && suitsR p s) := by
  conv => lhs; unfold suitsR
  rw [if_neg h]
theorem suitsR_else0 {a : UInt8} {p : Str} (h : ¬ a.toNat = 42) : suitsR (a :: p) [] = false := by
  unfold suitsR
  rw [if_neg h]
theorem any_hitN {f : Nat → Bool} {n k : Nat} (hk : k < n) (h : f k = true) : (List.range n).any f = true := List.any_eq_true.2 ⟨k, List.mem_range.2 hk, h⟩
theorem any_noneN {f : Nat → Bool} {n : Nat} (h : ∀ k, k < n → f k = false) : (List.range n).any f = false := by
  rw [List.any_eq_false]
  intro k hk
  rw [h k (List.mem_range.1 hk)]
  exact Bool.false_ne_true
theorem bs_empty (s : Str) : (decide (bs s = ⟨#[]⟩)) = decide (s = []) := by
  refine decide_eq_decide.2 ⟨fun h => ?_, fun h => by rw [h]; rfl⟩
  have h1 : (bs s).data.toList = [] := by rw [h]
  simpa [bs] using h1
theorem en_rows {l : List En} : ∀ x ∈ l.map En.cells, x.length = 3 := fun x hx => by obtain ⟨t, _, rfl⟩ := List.mem_map.1 hx; rfl
end Go.Hp
namespace Go.Proofs.YtlhdalcipflblaaDoor
open Go Go.Eng Go.Hp Go.Pw1

theorem rSuits_calls : ∀ (p s : Str), p.length ≤ 1000000 → s.length ≤ 1000000 → ∀ W : World, Calls Tryd.prog 67 #[.string (bs p), .string (bs s)] W (Pure (.bool (suitsR p s)) W)
  | [], s, hp, hs, W => by
    rw [suitsR_nil]
    refine calls_start Tryd.func67 rfl rfl ?_
    refine RunC.seq ?_
    refine RunC.region ?_
    refine RunL.val (Val.pure rfl) rfl rfl rfl ?_
    refine RunL.nil ?_
    refine RunE.next ?_
    refine RunC.seq ?_
    refine RunC.seq ?_
    refine RunC.region ?_
    refine RunL.val (Val.pure rfl) rfl rfl rfl ?_
    refine RunL.val (Val.eqlStr rfl rfl) rfl rfl rfl ?_
    refine RunL.nil ?_
    refine RunE.next ?_
    refine RunC.cond rfl ?_ (fun h => absurd h (by simp))
    intro c0
    clear c0
    refine RunC.seq ?_
    refine RunC.region ?_
    refine RunL.val (Val.pure rfl) rfl rfl rfl ?_
    refine RunL.val (Val.eqlStr rfl rfl) rfl rfl rfl ?_
    refine RunL.val (Val.pure rfl) rfl rfl rfl ?_
    refine RunL.nil ?_
    refine RunE.next ?_
    refine RunC.ret ?_
    refine RunE.pass_ret ?_
    exact RunE.retP (.r1 rfl (.tmp rfl)) (by first | rfl | simp)
  | a :: p, s, hp, hs, W => by
    have hp2 : p.length ≤ 1000000 := by simp at hp; omega
    have ih := fun s hs => rSuits_calls p s hp2 hs
    by_cases ha : a.toNat = 42
    · rw [suitsR_star ha]
      refine calls_start Tryd.func67 rfl rfl ?_
      refine RunC.seq ?_
      refine RunC.region ?_
      refine RunL.val (Val.pure rfl) rfl rfl rfl ?_
      refine RunL.nil ?_
      refine RunE.next ?_
      refine RunC.seq ?_
      refine RunC.seq ?_
      refine RunC.region ?_
      refine RunL.val (Val.pure rfl) rfl rfl rfl ?_
      refine RunL.val (Val.eqlStr rfl rfl) rfl rfl rfl ?_
      refine RunL.nil ?_
      refine RunE.next ?_
      refine RunC.cond rfl (fun h => absurd h (by simp)) ?_
      intro c0
      clear c0
      refine RunC.skip ?_
      refine RunE.next ?_
      refine RunC.seq ?_
      refine RunC.seq ?_
      refine RunC.region ?_
      refine RunL.val (Val.pure rfl) rfl rfl rfl ?_
      refine RunL.val (Val.strIndex rfl rfl und_9 (by decide) (c := a) rfl) rfl rfl rfl ?_
      refine RunL.val (Val.pure rfl) rfl rfl rfl ?_
      refine RunL.nil ?_
      refine RunE.next ?_
      refine RunC.cond rfl ?_ (fun h => absurd h (by simp; omega))
      intro c1
      clear c1
      refine RunC.seq ?_
      refine RunC.seq ?_
      refine RunC.region ?_
      refine RunL.val (Val.pure rfl) rfl rfl rfl ?_
      refine RunL.nil ?_
      refine RunE.next ?_
      refine RunC.block ?_
      refine RunC.loopK (s.length + 1) (fun k q => (5, .int .i64 (k : Int)) :: q) (fun _ => _) (fun _ => []) (fun k => ∀ j, j < k → suitsR p (s.drop j) = false) (fun j hj => by omega) rfl (Sub.consE (t := 5) rfl rfl (Sub.cons (t := 0) rfl (Sub.cons (t := 1) rfl (Sub.nil _)))) .nil ?_
      intro k kN kI
      refine RunC.seq ?_
      refine RunC.seq ?_
      refine RunC.region ?_
      refine RunL.val (Val.pure rfl) rfl rfl rfl ?_
      refine RunL.val (Val.pure rfl) rfl rfl rfl ?_
      refine RunL.val (Val.lenS rfl und_9) rfl rfl rfl ?_
      refine RunL.val (Val.pure rfl) rfl rfl rfl ?_
      refine RunL.nil ?_
      refine RunE.next ?_
      refine RunC.cond rfl ?_ ?_
      · intro c2
        have c2' := c2; clear c2
        try simp only [decide_eq_true_eq, decide_eq_false_iff_not, Bool.not_eq_true', Bool.not_eq_false', Bool.and_eq_true, Bool.or_eq_true, Bool.and_eq_false_iff, Bool.or_eq_false_iff, Int.not_le, Int.not_lt] at c2'
        have hk : k ≤ s.length := by omega
        refine RunC.skip ?_
        refine RunE.next ?_
        refine RunC.seq ?_
        refine RunC.block ?_
        refine RunC.seq ?_
        refine RunC.draw 5 fol_ .nil ?_
        refine RunA.val (i := 0) rfl (by kernel_rfl) (by kernel_rfl) (Val.pure rfl) rfl rfl rfl (fun _ _ _ h => h) .nil rfl ?_
        refine RunA.val (i := 1) rfl (by kernel_rfl) (by kernel_rfl) (Val.strFrom (l := a :: p) (a := 1) rfl rfl und_9 (by simp)) rfl rfl rfl (fun _ _ _ h => h) .nil rfl ?_
        refine RunA.val (i := 2) rfl (by kernel_rfl) (by kernel_rfl) (Val.pure rfl) rfl rfl rfl (fun _ _ _ h => h) .nil rfl ?_
        refine RunA.val (i := 3) rfl (by kernel_rfl) (by kernel_rfl) (Val.pure rfl) rfl rfl rfl (fun _ _ _ h => h) .nil rfl ?_
        refine RunA.val (i := 4) rfl (by kernel_rfl) (by kernel_rfl) (Val.strFrom (l := s) (a := k) rfl rfl und_9 (by omega)) rfl rfl rfl (fun _ _ _ h => h) .nil rfl ?_
        refine RunA.toB (by kernel_rfl) ?_
        refine RunB.one (i := 5) (by kernel_rfl) ?_
        refine RunI.callP rfl (isCall_func rfl ent_67) rfl rfl rfl (fun w hm => ih (s.drop k) (by rw [List.length_drop]; omega) w) (RunK.toB ?_)
        refine RunB.done (by kernel_rfl) ?_
        refine RunE.next ?_
        refine RunC.cond rfl ?_ ?_
        · intro c3
          have c3' := c3; clear c3
          try simp only [decide_eq_true_eq, decide_eq_false_iff_not, Bool.not_eq_true', Bool.not_eq_false', Bool.and_eq_true, Bool.or_eq_true, Bool.and_eq_false_iff, Bool.or_eq_false_iff, Int.not_le, Int.not_lt] at c3'
          refine RunC.seq ?_
          refine RunC.region ?_
          refine RunL.val (Val.pure rfl) rfl rfl rfl ?_
          refine RunL.nil ?_
          refine RunE.next ?_
          refine RunC.ret ?_
          refine RunE.block_ret ?_
          refine RunE.pass_ret ?_
          refine RunE.pass_ret ?_
          refine RunE.block_ret ?_
          refine RunE.pass_ret ?_
          refine RunE.pass_ret ?_
          exact RunE.retP (.r1 rfl (.tmp rfl)) (by rw [any_hitN (k := k) (by omega) c3'])
        · intro c3
          have c3' := c3; clear c3
          try simp only [decide_eq_true_eq, decide_eq_false_iff_not, Bool.not_eq_true', Bool.not_eq_false', Bool.and_eq_true, Bool.or_eq_true, Bool.and_eq_false_iff, Bool.or_eq_false_iff, Int.not_le, Int.not_lt] at c3'
          refine RunC.skip ?_
          refine RunE.block_normal ?_
          refine RunE.next ?_
          refine RunC.region ?_
          refine RunL.val (Val.pure rfl) rfl rfl rfl ?_
          refine RunL.val (Val.add rfl rfl (IntWalk.i64_in _ ⟨by omega, by omega⟩)) rfl rfl rfl ?_
          refine RunL.val (Val.pure rfl) rfl rfl rfl ?_
          refine RunL.nil ?_
          exact RunE.round (by omega) (step_none kI c3') rfl (Sub.consE (t := 5) rfl rfl (Sub.cons (t := 0) rfl (Sub.cons (t := 1) rfl (Sub.nil _)))) .nil
      · intro c2
        have c2' := c2; clear c2
        try simp only [decide_eq_true_eq, decide_eq_false_iff_not, Bool.not_eq_true', Bool.not_eq_false', Bool.and_eq_true, Bool.or_eq_true, Bool.and_eq_false_iff, Bool.or_eq_false_iff, Int.not_le, Int.not_lt] at c2'
        obtain rfl : k = s.length + 1 := by omega
        refine RunC.exit ?_
        refine RunE.pass_exit ?_
        refine RunE.pass_exit ?_
        refine RunE.block_here ?_
        refine RunE.next ?_
        refine RunC.seq ?_
        refine RunC.region ?_
        refine RunL.val (Val.pure rfl) rfl rfl rfl ?_
        refine RunL.nil ?_
        refine RunE.next ?_
        refine RunC.ret ?_
        refine RunE.pass_ret ?_
        exact RunE.retP (.r1 rfl (.tmp rfl)) (by rw [any_noneN kI])
    · cases s with
      | nil =>
        rw [suitsR_else0 ha]
        refine calls_start Tryd.func67 rfl rfl ?_
        refine RunC.seq ?_
        refine RunC.region ?_
        refine RunL.val (Val.pure rfl) rfl rfl rfl ?_
        refine RunL.nil ?_
        refine RunE.next ?_
        refine RunC.seq ?_
        refine RunC.seq ?_
        refine RunC.region ?_
        refine RunL.val (Val.pure rfl) rfl rfl rfl ?_
        refine RunL.val (Val.eqlStr rfl rfl) rfl rfl rfl ?_
        refine RunL.nil ?_
        refine RunE.next ?_
        refine RunC.cond rfl (fun h => absurd h (by simp)) ?_
        intro c0
        clear c0
        refine RunC.skip ?_
        refine RunE.next ?_
        refine RunC.seq ?_
        refine RunC.seq ?_
        refine RunC.region ?_
        refine RunL.val (Val.pure rfl) rfl rfl rfl ?_
        refine RunL.val (Val.strIndex rfl rfl und_9 (by decide) (c := a) rfl) rfl rfl rfl ?_
        refine RunL.val (Val.pure rfl) rfl rfl rfl ?_
        refine RunL.nil ?_
        refine RunE.next ?_
        refine RunC.cond rfl (fun h => absurd h (by simp; omega)) ?_
        intro c1
        clear c1
        refine RunC.skip ?_
        refine RunE.next ?_
        refine RunC.seq ?_
        refine RunC.draw 19 fol_ .nil ?_
        refine RunA.val (i := 0) rfl (by kernel_rfl) (by kernel_rfl) (Val.pure rfl) rfl rfl rfl (fun _ _ _ h => h) .nil rfl ?_
        refine RunA.val (i := 1) rfl (by kernel_rfl) (by kernel_rfl) (Val.neqStr rfl rfl) rfl rfl rfl (fun _ _ _ h => h) .nil rfl ?_
        refine RunA.val (i := 2) rfl (by kernel_rfl) (by kernel_rfl) (Val.pure rfl) rfl rfl rfl (fun _ _ _ h => h) .nil rfl ?_
        refine RunA.sure (dj := 27) false rfl (by simp) ?_
        refine RunA.no (i := 3) rfl (by kernel_rfl) (by kernel_rfl) rfl rfl rfl (fun _ _ _ h => h) .nil rfl ?_
        refine RunA.no (i := 4) rfl (by kernel_rfl) (by kernel_rfl) rfl rfl rfl (fun _ _ _ h => h) .nil rfl ?_
        refine RunA.no (i := 5) rfl (by kernel_rfl) (by kernel_rfl) rfl rfl rfl (fun _ _ _ h => h) .nil rfl ?_
        refine RunA.no (i := 6) rfl (by kernel_rfl) (by kernel_rfl) rfl rfl rfl (fun _ _ _ h => h) .nil rfl ?_
        refine RunA.no (i := 7) rfl (by kernel_rfl) (by kernel_rfl) rfl rfl rfl (fun _ _ _ h => h) .nil rfl ?_
        refine RunA.no (i := 8) rfl (by kernel_rfl) (by kernel_rfl) rfl rfl rfl (fun _ _ _ h => h) .nil rfl ?_
        refine RunA.no (i := 9) rfl (by kernel_rfl) (by kernel_rfl) rfl rfl rfl (fun _ _ _ h => h) .nil rfl ?_
        refine RunA.no (i := 10) rfl (by kernel_rfl) (by kernel_rfl) rfl rfl rfl (fun _ _ _ h => h) .nil rfl ?_
        refine RunA.no (i := 11) rfl (by kernel_rfl) (by kernel_rfl) rfl rfl rfl (fun _ _ _ h => h) .nil rfl ?_
        refine RunA.no (i := 12) rfl (by kernel_rfl) (by kernel_rfl) rfl rfl rfl (fun _ _ _ h => h) .nil rfl ?_
        refine RunA.val (i := 13) rfl (by kernel_rfl) (by kernel_rfl) (Val.pure rfl) rfl rfl rfl (fun _ _ _ h => h) .nil rfl ?_
        refine RunA.val (i := 14) rfl (by kernel_rfl) (by kernel_rfl) (Val.pure rfl) rfl rfl rfl (fun _ _ _ h => h) .nil rfl ?_
        refine RunA.sure (dj := 39) false rfl (by simp) ?_
        refine RunA.no (i := 15) rfl (by kernel_rfl) (by kernel_rfl) rfl rfl rfl (fun _ _ _ h => h) .nil rfl ?_
        refine RunA.no (i := 16) rfl (by kernel_rfl) (by kernel_rfl) rfl rfl rfl (fun _ _ _ h => h) .nil rfl ?_
        refine RunA.no (i := 17) rfl (by kernel_rfl) (by kernel_rfl) rfl rfl rfl (fun _ _ _ h => h) .nil rfl ?_
        refine RunA.no (i := 18) rfl (by kernel_rfl) (by kernel_rfl) rfl rfl rfl (fun _ _ _ h => h) .nil rfl ?_
        refine RunA.toB (by kernel_rfl) ?_
        refine RunB.one (i := 19) (by kernel_rfl) ?_
        refine RunI.no rfl rfl rfl rfl (RunK.toB ?_)
        refine RunB.one (i := 20) (by kernel_rfl) ?_
        refine RunI.val rfl (Val.pure rfl) rfl rfl rfl (RunK.toB ?_)
        refine RunB.one (i := 21) (by kernel_rfl) ?_
        refine RunI.val rfl (Val.pure rfl) rfl rfl rfl (RunK.toB ?_)
        refine RunB.done (by kernel_rfl) ?_
        refine RunE.next ?_
        refine RunC.ret ?_
        exact RunE.retP (.r1 rfl (.tmp rfl)) (by first | rfl | simp)
      | cons c s =>
        have hs2 : s.length ≤ 1000000 := by simp at hs; omega
        rw [suitsR_else ha]
        have h63 : decide ((a.toNat : Int) = 63) = decide (a.toNat = 63) := decide_eq_decide.2 (by omega)
        have hac : decide ((a.toNat : Int) = (c.toNat : Int)) = decide (a = c) := decide_eq_decide.2 ⟨fun h => UInt8.toNat_inj.1 (by omega), fun h => by rw [h]⟩
        refine calls_start Tryd.func67 rfl rfl ?_
        refine RunC.seq ?_
        refine RunC.region ?_
        refine RunL.val (Val.pure rfl) rfl rfl rfl ?_
        refine RunL.nil ?_
        refine RunE.next ?_
        refine RunC.seq ?_
        refine RunC.seq ?_
        refine RunC.region ?_
        refine RunL.val (Val.pure rfl) rfl rfl rfl ?_
        refine RunL.val (Val.eqlStr rfl rfl) rfl rfl rfl ?_
        refine RunL.nil ?_
        refine RunE.next ?_
        refine RunC.cond rfl (fun h => absurd h (by simp)) ?_
        intro c0
        clear c0
        refine RunC.skip ?_
        refine RunE.next ?_
        refine RunC.seq ?_
        refine RunC.seq ?_
        refine RunC.region ?_
        refine RunL.val (Val.pure rfl) rfl rfl rfl ?_
        refine RunL.val (Val.strIndex rfl rfl und_9 (by decide) (c := a) rfl) rfl rfl rfl ?_
        refine RunL.val (Val.pure rfl) rfl rfl rfl ?_
        refine RunL.nil ?_
        refine RunE.next ?_
        refine RunC.cond rfl (fun h => absurd h (by simp; omega)) ?_
        intro c1
        clear c1
        refine RunC.skip ?_
        refine RunE.next ?_
        refine RunC.seq ?_
        refine RunC.keep (Sub.cons (t := 0) rfl (Sub.cons (t := 1) rfl (Sub.nil _))) .nil ?_
        apply RunC.drawJ (J := J0 _ _ _ _ _ _) 19 fol_ .nil
        · refine RunA.val (i := 0) rfl (by kernel_rfl) (by kernel_rfl) (Val.pure rfl) rfl rfl rfl (fun _ _ _ h => h) .nil rfl ?_
          refine RunA.val (i := 1) rfl (by kernel_rfl) (by kernel_rfl) (Val.neqStr rfl rfl) rfl rfl rfl (fun _ _ _ h => h) .nil rfl ?_
          refine RunA.val (i := 2) rfl (by kernel_rfl) (by kernel_rfl) (Val.pure rfl) rfl rfl rfl (fun _ _ _ h => h) .nil rfl ?_
          refine RunA.sure (dj := 27) true rfl (by simp) ?_
          refine RunA.val (i := 3) rfl (by kernel_rfl) (by kernel_rfl) (Val.pure rfl) rfl rfl rfl (fun _ _ _ h => h) .nil rfl ?_
          refine RunA.val (i := 4) rfl (by kernel_rfl) (by kernel_rfl) (Val.strIndex rfl rfl und_9 (by decide) (c := a) rfl) rfl rfl rfl (fun _ _ _ h => h) .nil rfl ?_
          refine RunA.val (i := 5) rfl (by kernel_rfl) (by kernel_rfl) (Val.pure rfl) rfl rfl rfl (fun _ _ _ h => h) .nil rfl ?_
          refine RunA.val (i := 6) rfl (by kernel_rfl) (by kernel_rfl) (Val.pure rfl) rfl rfl rfl (fun _ _ _ h => h) .nil rfl ?_
          refine RunA.ways (dj := 31) rfl ?_ ?_
          · intro g31
            have g31' := g31; clear g31
            try simp only [decide_eq_true_eq, decide_eq_false_iff_not, Bool.not_eq_true', Bool.not_eq_false', Bool.and_eq_true, Bool.or_eq_true, Bool.and_eq_false_iff, Bool.or_eq_false_iff, Int.not_le, Int.not_lt] at g31'
            refine RunA.no (i := 7) rfl (by kernel_rfl) (by kernel_rfl) rfl rfl rfl (fun _ _ _ h => h) .nil rfl ?_
            refine RunA.no (i := 8) rfl (by kernel_rfl) (by kernel_rfl) rfl rfl rfl (fun _ _ _ h => h) .nil rfl ?_
            refine RunA.no (i := 9) rfl (by kernel_rfl) (by kernel_rfl) rfl rfl rfl (fun _ _ _ h => h) .nil rfl ?_
            refine RunA.no (i := 10) rfl (by kernel_rfl) (by kernel_rfl) rfl rfl rfl (fun _ _ _ h => h) .nil rfl ?_
            refine RunA.no (i := 11) rfl (by kernel_rfl) (by kernel_rfl) rfl rfl rfl (fun _ _ _ h => h) .nil rfl ?_
            refine RunA.val (i := 12) rfl (by kernel_rfl) (by kernel_rfl) (Val.pure rfl) rfl rfl rfl (fun _ _ _ h => h) .nil rfl ?_
            refine RunA.val (i := 13) rfl (by kernel_rfl) (by kernel_rfl) (Val.pure rfl) rfl rfl rfl (fun _ _ _ h => h) .nil rfl ?_
            refine RunA.val (i := 14) rfl (by kernel_rfl) (by kernel_rfl) (Val.pure rfl) rfl rfl rfl (fun _ _ _ h => h) .nil rfl ?_
            refine RunA.ways (dj := 39) rfl ?_ ?_
            · intro g39
              have g39' := g39; clear g39
              try simp only [decide_eq_true_eq, decide_eq_false_iff_not, Bool.not_eq_true', Bool.not_eq_false', Bool.and_eq_true, Bool.or_eq_true, Bool.and_eq_false_iff, Bool.or_eq_false_iff, Int.not_le, Int.not_lt] at g39'
              refine RunA.val (i := 15) rfl (by kernel_rfl) (by kernel_rfl) (Val.pure rfl) rfl rfl rfl (fun _ _ _ h => h) .nil rfl ?_
              refine RunA.val (i := 16) rfl (by kernel_rfl) (by kernel_rfl) (Val.strFrom (l := a :: p) (a := 1) rfl rfl und_9 (by simp)) rfl rfl rfl (fun _ _ _ h => h) .nil rfl ?_
              refine RunA.val (i := 17) rfl (by kernel_rfl) (by kernel_rfl) (Val.pure rfl) rfl rfl rfl (fun _ _ _ h => h) .nil rfl ?_
              refine RunA.val (i := 18) rfl (by kernel_rfl) (by kernel_rfl) (Val.strFrom (l := c :: s) (a := 1) rfl rfl und_9 (by simp)) rfl rfl rfl (fun _ _ _ h => h) .nil rfl ?_
              refine RunA.toB (by kernel_rfl) ?_
              refine RunB.one (i := 19) (by kernel_rfl) ?_
              refine RunI.callP rfl (isCall_func rfl ent_67) rfl rfl rfl (fun w hm => ih s hs2 w) (RunK.toB ?_)
              refine RunB.one (i := 20) (by kernel_rfl) ?_
              refine RunI.val rfl (Val.pure rfl) rfl rfl rfl (RunK.toB ?_)
              refine RunB.one (i := 21) (by kernel_rfl) ?_
              refine RunI.val rfl (Val.pure rfl) rfl rfl rfl (RunK.toB ?_)
              refine RunB.done (by kernel_rfl) ?_
              exact RunE.join0  (Sub.consE (t := 4) (v := .bool ((decide ((a.toNat : Int) = 63) || decide ((a.toNat : Int) = (c.toNat : Int))) && suitsR p s)) rfl (by first | rfl | (exact absurd g39' Bool.noConfusion) | (refine congrArg Value.bool ?_; cases suitsR p s <;> simp <;> omega)) (Sub.skip rfl (Sub.skip rfl (Sub.skip rfl (Sub.skip rfl (Sub.skip rfl (Sub.skip rfl (Sub.skip rfl (Sub.skip rfl (Sub.skip rfl (Sub.skip rfl (Sub.skip rfl (Sub.skip rfl (Sub.skip rfl (Sub.skip rfl (Sub.skip rfl (Sub.skip rfl (Sub.skip rfl (Sub.skip rfl (Sub.skip rfl (Sub.skip rfl (Sub.skip rfl (Sub.skip rfl (Sub.skip rfl (Sub.skip rfl (Sub.skip rfl (Sub.refl _))))))))))))))))))))))))))) (Pick.refl _)
            · intro g39
              have g39' := g39; clear g39
              try simp only [decide_eq_true_eq, decide_eq_false_iff_not, Bool.not_eq_true', Bool.not_eq_false', Bool.and_eq_true, Bool.or_eq_true, Bool.and_eq_false_iff, Bool.or_eq_false_iff, Int.not_le, Int.not_lt] at g39'
              refine RunA.no (i := 15) rfl (by kernel_rfl) (by kernel_rfl) rfl rfl rfl (fun _ _ _ h => h) .nil rfl ?_
              refine RunA.no (i := 16) rfl (by kernel_rfl) (by kernel_rfl) rfl rfl rfl (fun _ _ _ h => h) .nil rfl ?_
              refine RunA.no (i := 17) rfl (by kernel_rfl) (by kernel_rfl) rfl rfl rfl (fun _ _ _ h => h) .nil rfl ?_
              refine RunA.no (i := 18) rfl (by kernel_rfl) (by kernel_rfl) rfl rfl rfl (fun _ _ _ h => h) .nil rfl ?_
              refine RunA.toB (by kernel_rfl) ?_
              refine RunB.one (i := 19) (by kernel_rfl) ?_
              refine RunI.no rfl rfl rfl rfl (RunK.toB ?_)
              refine RunB.one (i := 20) (by kernel_rfl) ?_
              refine RunI.val rfl (Val.pure rfl) rfl rfl rfl (RunK.toB ?_)
              refine RunB.one (i := 21) (by kernel_rfl) ?_
              refine RunI.val rfl (Val.pure rfl) rfl rfl rfl (RunK.toB ?_)
              refine RunB.done (by kernel_rfl) ?_
              exact RunE.join0  (Sub.consE (t := 4) (v := .bool ((decide ((a.toNat : Int) = 63) || decide ((a.toNat : Int) = (c.toNat : Int))) && suitsR p s)) rfl (by first | rfl | (exact absurd g39' Bool.noConfusion) | (refine congrArg Value.bool ?_; cases suitsR p s <;> simp <;> omega)) (Sub.skip rfl (Sub.skip rfl (Sub.skip rfl (Sub.skip rfl (Sub.skip rfl (Sub.skip rfl (Sub.skip rfl (Sub.skip rfl (Sub.skip rfl (Sub.skip rfl (Sub.skip rfl (Sub.skip rfl (Sub.skip rfl (Sub.skip rfl (Sub.skip rfl (Sub.skip rfl (Sub.skip rfl (Sub.skip rfl (Sub.skip rfl (Sub.skip rfl (Sub.skip rfl (Sub.skip rfl (Sub.skip rfl (Sub.skip rfl (Sub.skip rfl (Sub.refl _))))))))))))))))))))))))))) .nil
          · intro g31
            have g31' := g31; clear g31
            try simp only [decide_eq_true_eq, decide_eq_false_iff_not, Bool.not_eq_true', Bool.not_eq_false', Bool.and_eq_true, Bool.or_eq_true, Bool.and_eq_false_iff, Bool.or_eq_false_iff, Int.not_le, Int.not_lt] at g31'
            refine RunA.val (i := 7) rfl (by kernel_rfl) (by kernel_rfl) (Val.pure rfl) rfl rfl rfl (fun _ _ _ h => h) .nil rfl ?_
            refine RunA.val (i := 8) rfl (by kernel_rfl) (by kernel_rfl) (Val.strIndex rfl rfl und_9 (by decide) (c := a) rfl) rfl rfl rfl (fun _ _ _ h => h) .nil rfl ?_
            refine RunA.val (i := 9) rfl (by kernel_rfl) (by kernel_rfl) (Val.pure rfl) rfl rfl rfl (fun _ _ _ h => h) .nil rfl ?_
            refine RunA.val (i := 10) rfl (by kernel_rfl) (by kernel_rfl) (Val.strIndex rfl rfl und_9 (by decide) (c := c) rfl) rfl rfl rfl (fun _ _ _ h => h) .nil rfl ?_
            refine RunA.val (i := 11) rfl (by kernel_rfl) (by kernel_rfl) (Val.pure rfl) rfl rfl rfl (fun _ _ _ h => h) .nil rfl ?_
            refine RunA.val (i := 12) rfl (by kernel_rfl) (by kernel_rfl) (Val.pure rfl) rfl rfl rfl (fun _ _ _ h => h) .nil rfl ?_
            refine RunA.val (i := 13) rfl (by kernel_rfl) (by kernel_rfl) (Val.pure rfl) rfl rfl rfl (fun _ _ _ h => h) .nil rfl ?_
            refine RunA.val (i := 14) rfl (by kernel_rfl) (by kernel_rfl) (Val.pure rfl) rfl rfl rfl (fun _ _ _ h => h) .nil rfl ?_
            refine RunA.ways (dj := 39) rfl ?_ ?_
            · intro g39
              have g39' := g39; clear g39
              try simp only [decide_eq_true_eq, decide_eq_false_iff_not, Bool.not_eq_true', Bool.not_eq_false', Bool.and_eq_true, Bool.or_eq_true, Bool.and_eq_false_iff, Bool.or_eq_false_iff, Int.not_le, Int.not_lt] at g39'
              refine RunA.val (i := 15) rfl (by kernel_rfl) (by kernel_rfl) (Val.pure rfl) rfl rfl rfl (fun _ _ _ h => h) .nil rfl ?_
              refine RunA.val (i := 16) rfl (by kernel_rfl) (by kernel_rfl) (Val.strFrom (l := a :: p) (a := 1) rfl rfl und_9 (by simp)) rfl rfl rfl (fun _ _ _ h => h) .nil rfl ?_
              refine RunA.val (i := 17) rfl (by kernel_rfl) (by kernel_rfl) (Val.pure rfl) rfl rfl rfl (fun _ _ _ h => h) .nil rfl ?_
              refine RunA.val (i := 18) rfl (by kernel_rfl) (by kernel_rfl) (Val.strFrom (l := c :: s) (a := 1) rfl rfl und_9 (by simp)) rfl rfl rfl (fun _ _ _ h => h) .nil rfl ?_
              refine RunA.toB (by kernel_rfl) ?_
              refine RunB.one (i := 19) (by kernel_rfl) ?_
              refine RunI.callP rfl (isCall_func rfl ent_67) rfl rfl rfl (fun w hm => ih s hs2 w) (RunK.toB ?_)
              refine RunB.one (i := 20) (by kernel_rfl) ?_
              refine RunI.val rfl (Val.pure rfl) rfl rfl rfl (RunK.toB ?_)
              refine RunB.one (i := 21) (by kernel_rfl) ?_
              refine RunI.val rfl (Val.pure rfl) rfl rfl rfl (RunK.toB ?_)
              refine RunB.done (by kernel_rfl) ?_
              exact RunE.join0  (Sub.consE (t := 4) (v := .bool ((decide ((a.toNat : Int) = 63) || decide ((a.toNat : Int) = (c.toNat : Int))) && suitsR p s)) rfl (by first | rfl | (exact absurd g39' Bool.noConfusion) | (refine congrArg Value.bool ?_; cases suitsR p s <;> simp <;> omega)) (Sub.skip rfl (Sub.skip rfl (Sub.skip rfl (Sub.skip rfl (Sub.skip rfl (Sub.skip rfl (Sub.skip rfl (Sub.skip rfl (Sub.skip rfl (Sub.skip rfl (Sub.skip rfl (Sub.skip rfl (Sub.skip rfl (Sub.skip rfl (Sub.skip rfl (Sub.skip rfl (Sub.skip rfl (Sub.skip rfl (Sub.skip rfl (Sub.skip rfl (Sub.skip rfl (Sub.skip rfl (Sub.skip rfl (Sub.skip rfl (Sub.skip rfl (Sub.refl _))))))))))))))))))))))))))) .nil
            · intro g39
              have g39' := g39; clear g39
              try simp only [decide_eq_true_eq, decide_eq_false_iff_not, Bool.not_eq_true', Bool.not_eq_false', Bool.and_eq_true, Bool.or_eq_true, Bool.and_eq_false_iff, Bool.or_eq_false_iff, Int.not_le, Int.not_lt] at g39'
              refine RunA.no (i := 15) rfl (by kernel_rfl) (by kernel_rfl) rfl rfl rfl (fun _ _ _ h => h) .nil rfl ?_
              refine RunA.no (i := 16) rfl (by kernel_rfl) (by kernel_rfl) rfl rfl rfl (fun _ _ _ h => h) .nil rfl ?_
              refine RunA.no (i := 17) rfl (by kernel_rfl) (by kernel_rfl) rfl rfl rfl (fun _ _ _ h => h) .nil rfl ?_
              refine RunA.no (i := 18) rfl (by kernel_rfl) (by kernel_rfl) rfl rfl rfl (fun _ _ _ h => h) .nil rfl ?_
              refine RunA.toB (by kernel_rfl) ?_
              refine RunB.one (i := 19) (by kernel_rfl) ?_
              refine RunI.no rfl rfl rfl rfl (RunK.toB ?_)
              refine RunB.one (i := 20) (by kernel_rfl) ?_
              refine RunI.val rfl (Val.pure rfl) rfl rfl rfl (RunK.toB ?_)
              refine RunB.one (i := 21) (by kernel_rfl) ?_
              refine RunI.val rfl (Val.pure rfl) rfl rfl rfl (RunK.toB ?_)
              refine RunB.done (by kernel_rfl) ?_
              exact RunE.join0  (Sub.consE (t := 4) (v := .bool ((decide ((a.toNat : Int) = 63) || decide ((a.toNat : Int) = (c.toNat : Int))) && suitsR p s)) rfl (by first | rfl | (exact absurd g39' Bool.noConfusion) | (refine congrArg Value.bool ?_; cases suitsR p s <;> simp <;> omega)) (Sub.skip rfl (Sub.skip rfl (Sub.skip rfl (Sub.skip rfl (Sub.skip rfl (Sub.skip rfl (Sub.skip rfl (Sub.skip rfl (Sub.skip rfl (Sub.skip rfl (Sub.skip rfl (Sub.skip rfl (Sub.skip rfl (Sub.skip rfl (Sub.skip rfl (Sub.skip rfl (Sub.skip rfl (Sub.skip rfl (Sub.skip rfl (Sub.skip rfl (Sub.skip rfl (Sub.skip rfl (Sub.skip rfl (Sub.skip rfl (Sub.skip rfl (Sub.refl _))))))))))))))))))))))))))) .nil
        refine J0.out ?_
        refine RunE.next ?_
        refine RunC.ret ?_
        exact RunE.retP (.r1 rfl (.tmp rfl)) (by rw [h63, hac])
theorem rFit_calls (t : Tn) (x : En) (ht : t.number.length ≤ 1000000 ∧ t.text.length ≤ 1000000) (hx : x.number.length ≤ 1000000 ∧ x.title.length ≤ 1000000) (hs : t.number.countP starX ≤ 1 ∧ t.text.countP starX ≤ 1) (W : World) : Calls Tryd.prog 50 #[.agg t.cells.toArray, .agg x.cells.toArray] W (Pure (.bool (fitX t x)) W) := by
  refine calls_start Tryd.func50 rfl rfl ?_
  refine RunC.seq ?_
  refine RunC.region ?_
  refine RunL.new (New.box rfl) rfl rfl rfl (fun b2 => ?_)
  refine RunL.new (New.box rfl) rfl rfl rfl (fun b3 => ?_)
  refine RunL.val (Val.pure rfl) rfl rfl rfl ?_
  refine RunL.nil ?_
  refine RunE.next ?_
  refine RunC.seq ?_
  refine RunC.region ?_
  refine RunL.val (Val.fieldAddr rfl fld_50_0) rfl rfl rfl ?_
  refine RunL.val (Val.load_one rfl (.tail _ (.head _)) ty_3 rfl) rfl rfl rfl ?_
  refine RunL.val (Val.pure rfl) rfl rfl rfl ?_
  refine RunL.val (Val.pure rfl) rfl rfl rfl ?_
  refine RunL.orPart (dj := 8) (dp := 14) 6 rfl (fun g8 => by
    have g8' := g8
    try simp only [decide_eq_true_eq, decide_eq_false_iff_not, Bool.not_eq_true', Bool.not_eq_false', Bool.and_eq_true, Bool.or_eq_true, Bool.and_eq_false_iff, Bool.or_eq_false_iff, Int.not_le, Int.not_lt] at g8'
    refine RunL.val (Val.fieldAddr rfl fld_50_0) rfl rfl rfl ?_
    refine RunL.val (Val.load_one rfl (.tail _ (.head _)) ty_3 rfl) rfl rfl rfl ?_
    refine RunL.val (Val.fieldAddr rfl fld_56_0) rfl rfl rfl ?_
    refine RunL.val (Val.load_one rfl (.head _) ty_3 rfl) rfl rfl rfl ?_
    refine RunL.val (Val.pure rfl) rfl rfl rfl ?_
    refine RunL.val (Val.pure rfl) rfl rfl rfl ?_
    exact RunL.segEnd (Sub.cons rfl (Sub.skip rfl (Sub.skip rfl (Sub.skip rfl (Sub.skip rfl (Sub.skip rfl (Sub.skip rfl (Sub.same rfl (by rw [g8]) (Sub.refl _))))))))) (List.Sublist.refl _)
  ) (fun g8 => by
    have g8' := g8
    try simp only [decide_eq_true_eq, decide_eq_false_iff_not, Bool.not_eq_true', Bool.not_eq_false', Bool.and_eq_true, Bool.or_eq_true, Bool.and_eq_false_iff, Bool.or_eq_false_iff, Int.not_le, Int.not_lt] at g8'
    iterate 5 refine RunL.no rfl rfl rfl ?_
    refine RunL.val (Val.pure rfl) rfl rfl rfl ?_
    exact RunL.segEnd (Sub.cons rfl (Sub.skip rfl (Sub.skip rfl (Sub.skip rfl (Sub.skip rfl (Sub.skip rfl (Sub.skip rfl (Sub.same rfl (by rw [g8]) (Sub.refl _))))))))) (List.Sublist.refl _)
  ) ?_
  refine RunL.val (Val.pure rfl) rfl rfl rfl ?_
  refine RunL.andPart (dj := 15) (dp := 21) 6 rfl (fun g15 => by
    have g15' := g15
    try simp only [decide_eq_true_eq, decide_eq_false_iff_not, Bool.not_eq_true', Bool.not_eq_false', Bool.and_eq_true, Bool.or_eq_true, Bool.and_eq_false_iff, Bool.or_eq_false_iff, Int.not_le, Int.not_lt] at g15'
    refine RunL.val (Val.fieldAddr rfl fld_50_1) rfl rfl rfl ?_
    refine RunL.val (Val.load_one rfl (.tail _ (.head _)) ty_9 rfl) rfl rfl rfl ?_
    refine RunL.val (Val.fieldAddr rfl fld_56_1) rfl rfl rfl ?_
    refine RunL.val (Val.load_one rfl (.head _) ty_9 rfl) rfl rfl rfl ?_
    refine RunL.callP (isCall_func rfl ent_67) rfl rfl rfl (fun w hm => (by have h9 := rSuits_calls t.number x.number ht.1 hx.1 w; rw [suitsR_X hs.1] at h9; exact h9)) ?_
    refine RunL.val (Val.pure rfl) rfl rfl rfl ?_
    exact RunL.segEnd (Sub.cons rfl (Sub.skip rfl (Sub.skip rfl (Sub.skip rfl (Sub.skip rfl (Sub.skip rfl (Sub.skip rfl (Sub.same rfl (by rw [g15]) (Sub.refl _))))))))) (List.Sublist.refl _)
  ) (fun g15 => by
    have g15' := g15
    try simp only [decide_eq_true_eq, decide_eq_false_iff_not, Bool.not_eq_true', Bool.not_eq_false', Bool.and_eq_true, Bool.or_eq_true, Bool.and_eq_false_iff, Bool.or_eq_false_iff, Int.not_le, Int.not_lt] at g15'
    iterate 5 refine RunL.no rfl rfl rfl ?_
    refine RunL.val (Val.pure rfl) rfl rfl rfl ?_
    exact RunL.segEnd (Sub.cons rfl (Sub.skip rfl (Sub.skip rfl (Sub.skip rfl (Sub.skip rfl (Sub.skip rfl (Sub.skip rfl (Sub.same rfl (by rw [g15]) (Sub.refl _))))))))) (List.Sublist.refl _)
  ) ?_
  refine RunL.val (Val.pure rfl) rfl rfl rfl ?_
  refine RunL.andPart (dj := 22) (dp := 28) 6 rfl (fun g22 => by
    have g22' := g22
    try simp only [decide_eq_true_eq, decide_eq_false_iff_not, Bool.not_eq_true', Bool.not_eq_false', Bool.and_eq_true, Bool.or_eq_true, Bool.and_eq_false_iff, Bool.or_eq_false_iff, Int.not_le, Int.not_lt] at g22'
    refine RunL.val (Val.fieldAddr rfl fld_50_2) rfl rfl rfl ?_
    refine RunL.val (Val.load_one rfl (.tail _ (.head _)) ty_9 rfl) rfl rfl rfl ?_
    refine RunL.val (Val.fieldAddr rfl fld_56_2) rfl rfl rfl ?_
    refine RunL.val (Val.load_one rfl (.head _) ty_9 rfl) rfl rfl rfl ?_
    refine RunL.callP (isCall_func rfl ent_67) rfl rfl rfl (fun w hm => (by have h9 := rSuits_calls t.text x.title ht.2 hx.2 w; rw [suitsR_X hs.2] at h9; exact h9)) ?_
    refine RunL.val (Val.pure rfl) rfl rfl rfl ?_
    exact RunL.segEnd (Sub.cons rfl (Sub.skip rfl (Sub.skip rfl (Sub.skip rfl (Sub.skip rfl (Sub.skip rfl (Sub.skip rfl (Sub.same rfl (by rw [g22]) (Sub.refl _))))))))) (List.Sublist.refl _)
  ) (fun g22 => by
    have g22' := g22
    try simp only [decide_eq_true_eq, decide_eq_false_iff_not, Bool.not_eq_true', Bool.not_eq_false', Bool.and_eq_true, Bool.or_eq_true, Bool.and_eq_false_iff, Bool.or_eq_false_iff, Int.not_le, Int.not_lt] at g22'
    iterate 5 refine RunL.no rfl rfl rfl ?_
    refine RunL.val (Val.pure rfl) rfl rfl rfl ?_
    exact RunL.segEnd (Sub.cons rfl (Sub.skip rfl (Sub.skip rfl (Sub.skip rfl (Sub.skip rfl (Sub.skip rfl (Sub.skip rfl (Sub.same rfl (by rw [g22]) (Sub.refl _))))))))) (List.Sublist.refl _)
  ) ?_
  refine RunL.val (Val.pure rfl) rfl rfl rfl ?_
  refine RunL.nil ?_
  refine RunE.next ?_
  refine RunC.ret ?_
  exact RunE.retP (.r1 rfl (.tmp rfl)) (by first | rfl | simp)
theorem rEntries1 (m : MxA) (hsm : MSm m) (hX : mixedX m.pl = true) (hn : 0 < (esX m).length) (W : World) (hM : MOk W m) : Calls Tryd.prog 34 #[m.v] W
    (News (fun z : OZ => .slice (some ⟨z.1, 0, none⟩) (esX m).length z.2.1) (fun z => [(z.1, .cells (((esX m).map En.cells).flatten ++ z.2.2).toArray 56 (0, 0))]) W) := by
  refine calls_mono (rEntries_calls m hsm hX W hM) ?_
  rintro ed w' ⟨⟨x, hx⟩, rfl, hm⟩
  obtain ⟨b, c, r, rfl, _⟩ := hx.has hn
  exact ⟨(b, c, r), rfl, hm⟩
theorem rcheck_calls (m : MxA) (hsm : MSm m) (v : Bool) (W : World) (hM : MOk W m) : Calls Tryd.prog 41 #[m.v, .bool v] W (Pure (.int .i64 (if mixedX m.pl then (if v then 0 else 2) else 1)) W) := by
  cases hX : mixedX m.pl <;> cases v
  · refine calls_start Tryd.func41 rfl rfl ?_
    refine RunC.seq ?_
    refine RunC.region ?_
    refine RunL.new (New.box rfl) rfl rfl rfl (fun b2 => ?_)
    refine RunL.val (Val.pure rfl) rfl rfl rfl ?_
    refine RunL.nil ?_
    refine RunE.next ?_
    refine RunC.seq ?_
    refine RunC.seq ?_
    refine RunC.region ?_
    refine RunL.val (Val.load_agg rfl (.head _) ty_25 rfl) rfl rfl rfl ?_
    refine RunL.callP (isCall_func rfl ent_33) rfl rfl rfl (fun w hm => rMixed_calls m hsm w (hM.mono0 hm)) ?_
    refine RunL.val (Val.pure rfl) rfl rfl rfl ?_
    refine RunL.nil ?_
    refine RunE.next ?_
    refine RunC.cond rfl ?_ (fun h => absurd h (by simp [hX]))
    intro c0
    clear c0
    refine RunC.seq ?_
    refine RunC.region ?_
    refine RunL.val (Val.pure rfl) rfl rfl rfl ?_
    refine RunL.nil ?_
    refine RunE.next ?_
    refine RunC.ret ?_
    refine RunE.pass_ret ?_
    exact RunE.retP (.r1 rfl (.tmp rfl)) (by first | rfl | simp)
  · refine calls_start Tryd.func41 rfl rfl ?_
    refine RunC.seq ?_
    refine RunC.region ?_
    refine RunL.new (New.box rfl) rfl rfl rfl (fun b2 => ?_)
    refine RunL.val (Val.pure rfl) rfl rfl rfl ?_
    refine RunL.nil ?_
    refine RunE.next ?_
    refine RunC.seq ?_
    refine RunC.seq ?_
    refine RunC.region ?_
    refine RunL.val (Val.load_agg rfl (.head _) ty_25 rfl) rfl rfl rfl ?_
    refine RunL.callP (isCall_func rfl ent_33) rfl rfl rfl (fun w hm => rMixed_calls m hsm w (hM.mono0 hm)) ?_
    refine RunL.val (Val.pure rfl) rfl rfl rfl ?_
    refine RunL.nil ?_
    refine RunE.next ?_
    refine RunC.cond rfl ?_ (fun h => absurd h (by simp [hX]))
    intro c0
    clear c0
    refine RunC.seq ?_
    refine RunC.region ?_
    refine RunL.val (Val.pure rfl) rfl rfl rfl ?_
    refine RunL.nil ?_
    refine RunE.next ?_
    refine RunC.ret ?_
    refine RunE.pass_ret ?_
    exact RunE.retP (.r1 rfl (.tmp rfl)) (by first | rfl | simp)
  · refine calls_start Tryd.func41 rfl rfl ?_
    refine RunC.seq ?_
    refine RunC.region ?_
    refine RunL.new (New.box rfl) rfl rfl rfl (fun b2 => ?_)
    refine RunL.val (Val.pure rfl) rfl rfl rfl ?_
    refine RunL.nil ?_
    refine RunE.next ?_
    refine RunC.seq ?_
    refine RunC.seq ?_
    refine RunC.region ?_
    refine RunL.val (Val.load_agg rfl (.head _) ty_25 rfl) rfl rfl rfl ?_
    refine RunL.callP (isCall_func rfl ent_33) rfl rfl rfl (fun w hm => rMixed_calls m hsm w (hM.mono0 hm)) ?_
    refine RunL.val (Val.pure rfl) rfl rfl rfl ?_
    refine RunL.nil ?_
    refine RunE.next ?_
    refine RunC.cond rfl (fun h => absurd h (by simp [hX])) ?_
    intro c0
    clear c0
    refine RunC.skip ?_
    refine RunE.next ?_
    refine RunC.seq ?_
    refine RunC.seq ?_
    refine RunC.region ?_
    refine RunL.val (Val.pure rfl) rfl rfl rfl ?_
    refine RunL.val (Val.pure rfl) rfl rfl rfl ?_
    refine RunL.nil ?_
    refine RunE.next ?_
    refine RunC.cond rfl ?_ (fun h => absurd h (by simp))
    intro c1
    clear c1
    refine RunC.seq ?_
    refine RunC.region ?_
    refine RunL.val (Val.pure rfl) rfl rfl rfl ?_
    refine RunL.nil ?_
    refine RunE.next ?_
    refine RunC.ret ?_
    refine RunE.pass_ret ?_
    exact RunE.retP (.r1 rfl (.tmp rfl)) (by first | rfl | simp)
  · refine calls_start Tryd.func41 rfl rfl ?_
    refine RunC.seq ?_
    refine RunC.region ?_
    refine RunL.new (New.box rfl) rfl rfl rfl (fun b2 => ?_)
    refine RunL.val (Val.pure rfl) rfl rfl rfl ?_
    refine RunL.nil ?_
    refine RunE.next ?_
    refine RunC.seq ?_
    refine RunC.seq ?_
    refine RunC.region ?_
    refine RunL.val (Val.load_agg rfl (.head _) ty_25 rfl) rfl rfl rfl ?_
    refine RunL.callP (isCall_func rfl ent_33) rfl rfl rfl (fun w hm => rMixed_calls m hsm w (hM.mono0 hm)) ?_
    refine RunL.val (Val.pure rfl) rfl rfl rfl ?_
    refine RunL.nil ?_
    refine RunE.next ?_
    refine RunC.cond rfl (fun h => absurd h (by simp [hX])) ?_
    intro c0
    clear c0
    refine RunC.skip ?_
    refine RunE.next ?_
    refine RunC.seq ?_
    refine RunC.seq ?_
    refine RunC.region ?_
    refine RunL.val (Val.pure rfl) rfl rfl rfl ?_
    refine RunL.val (Val.pure rfl) rfl rfl rfl ?_
    refine RunL.nil ?_
    refine RunE.next ?_
    refine RunC.cond rfl (fun h => absurd h (by simp)) ?_
    intro c1
    clear c1
    refine RunC.skip ?_
    refine RunE.next ?_
    refine RunC.seq ?_
    refine RunC.region ?_
    refine RunL.val (Val.pure rfl) rfl rfl rfl ?_
    refine RunL.nil ?_
    refine RunE.next ?_
    refine RunC.ret ?_
    exact RunE.retP (.r1 rfl (.tmp rfl)) (by first | rfl | simp)
theorem rfits_calls (m : MxA) (hsm : MSm m) (hX : mixedX m.pl = true) (i : Nat) (hi : i < m.cards.length) (f : Nat) (hf : (fsX m.pl).getD i 0 = f) (W : World) (hM : MOk W m) : Calls Tryd.prog 43 #[m.v, .int .i64 (i : Int)] W (Pure (.int .i64 (f : Int)) W) := by
  obtain ⟨h4, h8, h12⟩ := mixed_ok hX
  obtain ⟨c, hc⟩ : ∃ c, m.cards[i] = c := ⟨_, rfl⟩
  have hcm : c ∈ m.cards := hc ▸ List.getElem_mem hi
  have hcs := hsm.tx c hcm
  have hcg := card_good hX hcm
  have hfc : f = fitsL c 0 (esX m) := by
    rw [← hf]
    have hk2 : i < (fsX m.pl).length := by rw [fs_len]; exact hi
    have e1 : (fsX m.pl)[i] = fitsX m.pl c := by
      have : (m.cards.map (fitsX m.pl))[i]'(by simpa using hi) = fitsX m.pl c := by rw [List.getElem_map, hc]
      exact this
    rw [getD_at hk2 e1]
    rfl
  rw [hfc]
  refine calls_start Tryd.func43 rfl rfl ?_
  refine RunC.seq ?_
  refine RunC.region ?_
  refine RunL.new (New.box rfl) rfl rfl rfl (fun b2 => ?_)
  refine RunL.val (Val.pure rfl) rfl rfl rfl ?_
  refine RunL.nil ?_
  refine RunE.next ?_
  refine RunC.seq ?_
  refine RunC.region ?_
  refine RunL.val (Val.load_agg rfl (.head _) ty_25 rfl) rfl rfl rfl ?_
  refine RunL.callNT (isCall_func rfl ent_34) rfl rfl rfl (fun w hm => rEntries_calls m hsm hX w (hM.mono0 hm)) (fun z9 => ?_)
  obtain ⟨x9, hx9⟩ := z9
  dsimp only
  refine RunL.val (Val.pure rfl) rfl rfl rfl ?_
  refine RunL.nil ?_
  refine RunE.next ?_
  refine RunC.seq ?_
  refine RunC.region ?_
  refine RunL.val (Val.pure rfl) rfl rfl rfl ?_
  refine RunL.nil ?_
  refine RunE.next ?_
  refine RunC.seq ?_
  refine RunC.seq ?_
  refine RunC.region ?_
  refine RunL.val (Val.pure rfl) rfl rfl rfl ?_
  refine RunL.nil ?_
  refine RunE.next ?_
  refine RunC.block ?_
  refine RunC.loopK ((esX m).length) (fun k q => (7, .int .i64 (k : Int)) :: (6, .int .i64 ((fitsL c 0 ((esX m).take k) : Nat) : Int)) :: q) (fun _ => _) (fun _ => []) (fun _ => True) trivial rfl (Sub.consE (t := 7) rfl rfl (Sub.consE (t := 6) rfl rfl (Sub.cons (t := 1) rfl (Sub.cons (t := 2) rfl (Sub.cons (t := 5) rfl (Sub.nil _)))))) (.cons .here rfl (Pick.refl _)) ?_
  intro k kN kI
  clear kI
  refine RunC.seq ?_
  refine RunC.seq ?_
  refine RunC.region ?_
  refine RunL.val (Val.pure rfl) rfl rfl rfl ?_
  refine RunL.val (Val.pure rfl) rfl rfl rfl ?_
  refine RunL.val (Val.len_sl rfl sl_53) rfl rfl rfl ?_
  refine RunL.val (Val.pure rfl) rfl rfl rfl ?_
  refine RunL.nil ?_
  refine RunE.next ?_
  refine RunC.cond rfl ?_ ?_
  · intro c0
    have c0' := c0; clear c0
    try simp only [decide_eq_true_eq, decide_eq_false_iff_not, Bool.not_eq_true', Bool.not_eq_false', Bool.and_eq_true, Bool.or_eq_true, Bool.and_eq_false_iff, Bool.or_eq_false_iff, Int.not_le, Int.not_lt] at c0'
    have hk : k < (esX m).length := by omega
    obtain ⟨e, he⟩ : ∃ e, (esX m)[k] = e := ⟨_, rfl⟩
    have hes := en_small hsm e (he ▸ List.getElem_mem hk)
    have hlt := fitsL_lt c ((esX m).take k) 0
    rw [List.length_take, Nat.zero_add, Nat.min_eq_left (by omega)] at hlt
    have h2k : 2 ^ k < 2 ^ 12 := Nat.pow_lt_pow_right (by decide) (by omega)
    refine RunC.skip ?_
    refine RunE.next ?_
    refine RunC.seq ?_
    refine RunC.block ?_
    refine RunC.seq ?_
    obtain ⟨bx9, cx9, rx9, rfl, lx91, lx92, lx93⟩ := hx9.has (by omega)
    refine RunC.draw 9 fol_ (.cons .here rfl (.cons .here rfl .nil)) ?_
    refine RunA.val (i := 0) rfl (by kernel_rfl) (by kernel_rfl) (Val.fieldAddr rfl fld_25_1) rfl rfl rfl (fun _ _ _ h => h) (.cons .here rfl (.cons .here rfl .nil)) rfl ?_
    refine RunA.val (i := 1) rfl (by kernel_rfl) (by kernel_rfl) (Val.load_one rfl (.head _) ty_23 rfl) rfl rfl rfl (fun _ _ _ h => h) (.cons .here rfl (.cons .here rfl .nil)) rfl ?_
    refine RunA.val (i := 2) rfl (by kernel_rfl) (by kernel_rfl) (Val.pure rfl) rfl rfl rfl (fun _ _ _ h => h) (.cons .here rfl (.cons .here rfl .nil)) rfl ?_
    refine RunA.val (i := 3) rfl (by kernel_rfl) (by kernel_rfl) (Val.indexAddr_slp rfl rfl sl_23 (by omega) (by omega) (hM.cd.ptrM hi)) rfl rfl rfl (fun _ _ _ h => h) (.cons .here rfl (.cons .here rfl .nil)) rfl ?_
    refine RunA.val (i := 4) rfl (by kernel_rfl) (by kernel_rfl) (Val.load_gen rfl (fun w hm => hM.cd.loadX (by decide) hm (by simp) ty_50 hi hc)) rfl rfl rfl (fun _ _ _ h => h) (.cons .here rfl (.cons .here rfl .nil)) rfl ?_
    refine RunA.val (i := 5) rfl (by kernel_rfl) (by kernel_rfl) (Val.pure rfl) rfl rfl rfl (fun _ _ _ h => h) (.cons .here rfl (.cons .here rfl .nil)) rfl ?_
    refine RunA.val (i := 6) rfl (by kernel_rfl) (by kernel_rfl) (Val.pure rfl) rfl rfl rfl (fun _ _ _ h => h) (.cons .here rfl (.cons .here rfl .nil)) rfl ?_
    refine RunA.val (i := 7) rfl (by kernel_rfl) (by kernel_rfl) (Val.indexAddr_slp rfl rfl sl_53 (by omega) (by omega) rfl) rfl rfl rfl (fun _ _ _ h => h) (.cons .here rfl (.cons .here rfl .nil)) rfl ?_
    refine RunA.val (i := 8) rfl (by kernel_rfl) (by kernel_rfl) (Val.load_gen rfl (fun w hm => (Sl.rowsR (xs := (esX m).map En.cells) (t := rx9) (hm.at (.tail _ (.head _))) en_rows).loadX (by decide) (Mem.refl w) (by simp) ty_56 hk he)) rfl rfl rfl (fun _ _ _ h => h) (.cons .here rfl (.cons .here rfl .nil)) rfl ?_
    refine RunA.toB (by kernel_rfl) ?_
    refine RunB.one (i := 9) (by kernel_rfl) ?_
    refine RunI.callP rfl (isCall_func rfl ent_50) rfl rfl rfl (fun w hm => rFit_calls c e hcs hes hcg w) (RunK.toB ?_)
    refine RunB.done (by kernel_rfl) ?_
    refine RunE.next ?_
    refine RunC.cond rfl ?_ ?_
    · intro c1
      have c1' := c1; clear c1
      try simp only [decide_eq_true_eq, decide_eq_false_iff_not, Bool.not_eq_true', Bool.not_eq_false', Bool.and_eq_true, Bool.or_eq_true, Bool.and_eq_false_iff, Bool.or_eq_false_iff, Int.not_le, Int.not_lt] at c1'
      have hft : fitX c e = true := c1'
      refine RunC.region ?_
      refine RunL.val (Val.pure rfl) rfl rfl rfl ?_
      refine RunL.val (Val.pure rfl) rfl rfl rfl ?_
      refine RunL.callP (isCall_func rfl ent_48) rfl rfl rfl (fun w hm => rpower_calls k (by omega) w) ?_
      refine RunL.val (Val.addN (a := fitsL c 0 ((esX m).take k)) (b := 2 ^ k) (fitsL c 0 ((esX m).take k) + 2 ^ k) rfl rfl rfl (i64_inN (by omega))) rfl rfl rfl ?_
      refine RunL.val (Val.pure rfl) rfl rfl rfl ?_
      refine RunL.nil ?_
      refine RunE.block_normal ?_
      refine RunE.next ?_
      refine RunC.region ?_
      refine RunL.val (Val.pure rfl) rfl rfl rfl ?_
      refine RunL.val (Val.add rfl rfl (IntWalk.i64_in _ ⟨by omega, by omega⟩)) rfl rfl rfl ?_
      refine RunL.val (Val.pure rfl) rfl rfl rfl ?_
      refine RunL.nil ?_
      exact RunE.round (by omega) trivial rfl (Sub.consE (t := 7) rfl rfl (Sub.consE (t := 6) rfl (by rw [fits_step hk he, hft]; first | rfl | (rw [if_pos rfl, or_add hlt]) | simp) (Sub.cons (t := 1) rfl (Sub.cons (t := 2) rfl (Sub.cons (t := 5) rfl (Sub.nil _)))))) (.cons .here rfl (.cons .here rfl .nil))
    · intro c1
      have c1' := c1; clear c1
      try simp only [decide_eq_true_eq, decide_eq_false_iff_not, Bool.not_eq_true', Bool.not_eq_false', Bool.and_eq_true, Bool.or_eq_true, Bool.and_eq_false_iff, Bool.or_eq_false_iff, Int.not_le, Int.not_lt] at c1'
      have hft : fitX c e = false := c1'
      refine RunC.skip ?_
      refine RunE.block_normal ?_
      refine RunE.next ?_
      refine RunC.region ?_
      refine RunL.val (Val.pure rfl) rfl rfl rfl ?_
      refine RunL.val (Val.add rfl rfl (IntWalk.i64_in _ ⟨by omega, by omega⟩)) rfl rfl rfl ?_
      refine RunL.val (Val.pure rfl) rfl rfl rfl ?_
      refine RunL.nil ?_
      exact RunE.round (by omega) trivial rfl (Sub.consE (t := 7) rfl rfl (Sub.consE (t := 6) rfl (by rw [fits_step hk he, hft]; first | rfl | (rw [if_pos rfl, or_add hlt]) | simp) (Sub.cons (t := 1) rfl (Sub.cons (t := 2) rfl (Sub.cons (t := 5) rfl (Sub.nil _)))))) (.cons .here rfl (.cons .here rfl .nil))
  · intro c0
    have c0' := c0; clear c0
    try simp only [decide_eq_true_eq, decide_eq_false_iff_not, Bool.not_eq_true', Bool.not_eq_false', Bool.and_eq_true, Bool.or_eq_true, Bool.and_eq_false_iff, Bool.or_eq_false_iff, Int.not_le, Int.not_lt] at c0'
    obtain rfl : k = (esX m).length := by omega
    simp only [List.take_length]
    refine RunC.exit ?_
    refine RunE.pass_exit ?_
    refine RunE.pass_exit ?_
    refine RunE.block_here ?_
    refine RunE.next ?_
    refine RunC.seq ?_
    refine RunC.region ?_
    refine RunL.val (Val.pure rfl) rfl rfl rfl ?_
    refine RunL.val (Val.pure rfl) rfl rfl rfl ?_
    refine RunL.nil ?_
    refine RunE.next ?_
    refine RunC.ret ?_
    exact RunE.retP (.r1 rfl (.tmp rfl)) (by first | rfl | simp)
theorem rFits_calls (m : MxA) (hsm : MSm m) (hb : m.cards.length ≤ 20) (c : Int) (W : World) (hM : MOk W m) : Calls Tryd.prog 15 #[m.v, .int .i64 c] W (Pure (.tuple #[.int .i64 (FitsX m.pl c).1, .int .i64 (FitsX m.pl c).2]) W) := by
  cases hX : mixedX m.pl with
  | false =>
    have e : FitsX m.pl c = (0, 1) := by unfold FitsX; rw [hX]; rfl
    rw [e]
    refine calls_start Tryd.func15 rfl rfl ?_
    refine RunC.seq ?_
    refine RunC.region ?_
    refine RunL.new (New.box rfl) rfl rfl rfl (fun b2 => ?_)
    refine RunL.val (Val.pure rfl) rfl rfl rfl ?_
    refine RunL.val (Val.pure rfl) rfl rfl rfl ?_
    refine RunL.nil ?_
    refine RunE.next ?_
    refine RunC.seq ?_
    refine RunC.draw 7 fol_ (.cons .here rfl .nil) ?_
    refine RunA.val (i := 0) rfl (by kernel_rfl) (by kernel_rfl) (Val.load_agg rfl (.head _) ty_25 rfl) rfl rfl rfl (fun _ _ _ h => h) (.cons .here rfl .nil) rfl ?_
    refine RunA.val (i := 1) rfl (by kernel_rfl) (by kernel_rfl) (Val.pure rfl) rfl rfl rfl (fun _ _ _ h => h) (.cons .here rfl .nil) rfl ?_
    refine RunA.val (i := 2) rfl (by kernel_rfl) (by kernel_rfl) (Val.fieldAddr rfl fld_25_1) rfl rfl rfl (fun _ _ _ h => h) (.cons .here rfl .nil) rfl ?_
    refine RunA.val (i := 3) rfl (by kernel_rfl) (by kernel_rfl) (Val.load_one rfl (.head _) ty_23 rfl) rfl rfl rfl (fun _ _ _ h => h) (.cons .here rfl .nil) rfl ?_
    refine RunA.val (i := 4) rfl (by kernel_rfl) (by kernel_rfl) (Val.len_sl rfl sl_23) rfl rfl rfl (fun _ _ _ h => h) (.cons .here rfl .nil) rfl ?_
    refine RunA.val (i := 5) rfl (by kernel_rfl) (by kernel_rfl) (Val.sub' rfl rfl (IntWalk.i64_in _ ⟨by omega, by omega⟩)) rfl rfl rfl (fun _ _ _ h => h) (.cons .here rfl .nil) rfl ?_
    refine RunA.one (i := 6) (by kernel_rfl) (by kernel_rfl) ?_
    refine RunI.callP rfl (isCall_func rfl ent_42) rfl rfl rfl (fun w hm => rin_calls c 0 ((m.cards.length : Int) - 1) w) (RunK.toA (.cons .here rfl .nil) (.cons .here rfl .nil) rfl ?_)
    refine RunA.toB (by kernel_rfl) ?_
    refine RunB.one (i := 7) (by kernel_rfl) ?_
    refine RunI.callP rfl (isCall_func rfl ent_41) rfl rfl rfl (fun w hm => (by have h9 := rcheck_calls m hsm (within c 0 ((m.cards.length : Int) - 1)) w (hM.mono0 hm); rw [hX] at h9; exact h9)) (RunK.toB ?_)
    refine RunB.one (i := 8) (by kernel_rfl) ?_
    refine RunI.val rfl (Val.pure rfl) rfl rfl rfl (RunK.toB ?_)
    refine RunB.done (by kernel_rfl) ?_
    refine RunE.next ?_
    refine RunC.seq ?_
    refine RunC.seq ?_
    refine RunC.region ?_
    refine RunL.val (Val.pure rfl) rfl rfl rfl ?_
    refine RunL.val (Val.pure rfl) rfl rfl rfl ?_
    refine RunL.nil ?_
    refine RunE.next ?_
    refine RunC.cond rfl ?_ (fun h => absurd h (by simp))
    intro c0
    clear c0
    refine RunC.seq ?_
    refine RunC.region ?_
    iterate 3 refine RunL.val (Val.pure rfl) rfl rfl rfl ?_
    refine RunL.nil ?_
    refine RunE.next ?_
    refine RunC.ret ?_
    refine RunE.pass_ret ?_
    exact RunE.retP (.r2 rfl (.tmp rfl) (.tmp rfl)) (by simp)
  | true =>
    cases hc : within c 0 ((m.cards.length : Int) - 1) with
    | false =>
      have e : FitsX m.pl c = (0, 2) := by unfold FitsX; rw [if_pos hX, show cardX m.pl c = false from hc]; rfl
      rw [e]
      refine calls_start Tryd.func15 rfl rfl ?_
      refine RunC.seq ?_
      refine RunC.region ?_
      refine RunL.new (New.box rfl) rfl rfl rfl (fun b2 => ?_)
      refine RunL.val (Val.pure rfl) rfl rfl rfl ?_
      refine RunL.val (Val.pure rfl) rfl rfl rfl ?_
      refine RunL.nil ?_
      refine RunE.next ?_
      refine RunC.seq ?_
      refine RunC.draw 7 fol_ (.cons .here rfl .nil) ?_
      refine RunA.val (i := 0) rfl (by kernel_rfl) (by kernel_rfl) (Val.load_agg rfl (.head _) ty_25 rfl) rfl rfl rfl (fun _ _ _ h => h) (.cons .here rfl .nil) rfl ?_
      refine RunA.val (i := 1) rfl (by kernel_rfl) (by kernel_rfl) (Val.pure rfl) rfl rfl rfl (fun _ _ _ h => h) (.cons .here rfl .nil) rfl ?_
      refine RunA.val (i := 2) rfl (by kernel_rfl) (by kernel_rfl) (Val.fieldAddr rfl fld_25_1) rfl rfl rfl (fun _ _ _ h => h) (.cons .here rfl .nil) rfl ?_
      refine RunA.val (i := 3) rfl (by kernel_rfl) (by kernel_rfl) (Val.load_one rfl (.head _) ty_23 rfl) rfl rfl rfl (fun _ _ _ h => h) (.cons .here rfl .nil) rfl ?_
      refine RunA.val (i := 4) rfl (by kernel_rfl) (by kernel_rfl) (Val.len_sl rfl sl_23) rfl rfl rfl (fun _ _ _ h => h) (.cons .here rfl .nil) rfl ?_
      refine RunA.val (i := 5) rfl (by kernel_rfl) (by kernel_rfl) (Val.sub' rfl rfl (IntWalk.i64_in _ ⟨by omega, by omega⟩)) rfl rfl rfl (fun _ _ _ h => h) (.cons .here rfl .nil) rfl ?_
      refine RunA.one (i := 6) (by kernel_rfl) (by kernel_rfl) ?_
      refine RunI.callP rfl (isCall_func rfl ent_42) rfl rfl rfl (fun w hm => (by have h9 := rin_calls c 0 ((m.cards.length : Int) - 1) w; rw [hc] at h9; exact h9)) (RunK.toA (.cons .here rfl .nil) (.cons .here rfl .nil) rfl ?_)
      refine RunA.toB (by kernel_rfl) ?_
      refine RunB.one (i := 7) (by kernel_rfl) ?_
      refine RunI.callP rfl (isCall_func rfl ent_41) rfl rfl rfl (fun w hm => (by have h9 := rcheck_calls m hsm false w (hM.mono0 hm); rw [hX] at h9; exact h9)) (RunK.toB ?_)
      refine RunB.one (i := 8) (by kernel_rfl) ?_
      refine RunI.val rfl (Val.pure rfl) rfl rfl rfl (RunK.toB ?_)
      refine RunB.done (by kernel_rfl) ?_
      refine RunE.next ?_
      refine RunC.seq ?_
      refine RunC.seq ?_
      refine RunC.region ?_
      refine RunL.val (Val.pure rfl) rfl rfl rfl ?_
      refine RunL.val (Val.pure rfl) rfl rfl rfl ?_
      refine RunL.nil ?_
      refine RunE.next ?_
      refine RunC.cond rfl ?_ (fun h => absurd h (by simp))
      intro c0
      clear c0
      refine RunC.seq ?_
      refine RunC.region ?_
      iterate 3 refine RunL.val (Val.pure rfl) rfl rfl rfl ?_
      refine RunL.nil ?_
      refine RunE.next ?_
      refine RunC.ret ?_
      refine RunE.pass_ret ?_
      exact RunE.retP (.r2 rfl (.tmp rfl) (.tmp rfl)) (by simp)
    | true =>
      obtain ⟨k, rfl, hk⟩ := card_nat (show cardX m.pl c = true from hc)
      obtain ⟨f, hf⟩ : ∃ f, (fsX m.pl).getD k 0 = f := ⟨_, rfl⟩
      have e : FitsX m.pl (k : Int) = ((f : Int), 0) := by unfold FitsX; rw [if_pos hX, show cardX m.pl (k : Int) = true from hc, if_pos rfl, Int.toNat_natCast, hf]
      rw [e]
      refine calls_start Tryd.func15 rfl rfl ?_
      refine RunC.seq ?_
      refine RunC.region ?_
      refine RunL.new (New.box rfl) rfl rfl rfl (fun b2 => ?_)
      refine RunL.val (Val.pure rfl) rfl rfl rfl ?_
      refine RunL.val (Val.pure rfl) rfl rfl rfl ?_
      refine RunL.nil ?_
      refine RunE.next ?_
      refine RunC.seq ?_
      refine RunC.draw 7 fol_ (.cons .here rfl .nil) ?_
      refine RunA.val (i := 0) rfl (by kernel_rfl) (by kernel_rfl) (Val.load_agg rfl (.head _) ty_25 rfl) rfl rfl rfl (fun _ _ _ h => h) (.cons .here rfl .nil) rfl ?_
      refine RunA.val (i := 1) rfl (by kernel_rfl) (by kernel_rfl) (Val.pure rfl) rfl rfl rfl (fun _ _ _ h => h) (.cons .here rfl .nil) rfl ?_
      refine RunA.val (i := 2) rfl (by kernel_rfl) (by kernel_rfl) (Val.fieldAddr rfl fld_25_1) rfl rfl rfl (fun _ _ _ h => h) (.cons .here rfl .nil) rfl ?_
      refine RunA.val (i := 3) rfl (by kernel_rfl) (by kernel_rfl) (Val.load_one rfl (.head _) ty_23 rfl) rfl rfl rfl (fun _ _ _ h => h) (.cons .here rfl .nil) rfl ?_
      refine RunA.val (i := 4) rfl (by kernel_rfl) (by kernel_rfl) (Val.len_sl rfl sl_23) rfl rfl rfl (fun _ _ _ h => h) (.cons .here rfl .nil) rfl ?_
      refine RunA.val (i := 5) rfl (by kernel_rfl) (by kernel_rfl) (Val.sub' rfl rfl (IntWalk.i64_in _ ⟨by omega, by omega⟩)) rfl rfl rfl (fun _ _ _ h => h) (.cons .here rfl .nil) rfl ?_
      refine RunA.one (i := 6) (by kernel_rfl) (by kernel_rfl) ?_
      refine RunI.callP rfl (isCall_func rfl ent_42) rfl rfl rfl (fun w hm => (by have h9 := rin_calls (k : Int) 0 ((m.cards.length : Int) - 1) w; rw [hc] at h9; exact h9)) (RunK.toA (.cons .here rfl .nil) (.cons .here rfl .nil) rfl ?_)
      refine RunA.toB (by kernel_rfl) ?_
      refine RunB.one (i := 7) (by kernel_rfl) ?_
      refine RunI.callP rfl (isCall_func rfl ent_41) rfl rfl rfl (fun w hm => (by have h9 := rcheck_calls m hsm true w (hM.mono0 hm); rw [hX] at h9; exact h9)) (RunK.toB ?_)
      refine RunB.one (i := 8) (by kernel_rfl) ?_
      refine RunI.val rfl (Val.pure rfl) rfl rfl rfl (RunK.toB ?_)
      refine RunB.done (by kernel_rfl) ?_
      refine RunE.next ?_
      refine RunC.seq ?_
      refine RunC.seq ?_
      refine RunC.region ?_
      refine RunL.val (Val.pure rfl) rfl rfl rfl ?_
      refine RunL.val (Val.pure rfl) rfl rfl rfl ?_
      refine RunL.nil ?_
      refine RunE.next ?_
      refine RunC.cond rfl (fun h => absurd h (by simp)) ?_
      intro c0
      clear c0
      refine RunC.skip ?_
      refine RunE.next ?_
      refine RunC.seq ?_
      refine RunC.region ?_
      refine RunL.val (Val.load_agg rfl (.head _) ty_25 rfl) rfl rfl rfl ?_
      refine RunL.val (Val.pure rfl) rfl rfl rfl ?_
      refine RunL.callP (isCall_func rfl ent_43) rfl rfl rfl (fun w hm => rfits_calls m hsm hX k hk f hf w (hM.mono0 hm)) ?_
      refine RunL.val (Val.pure rfl) rfl rfl rfl ?_
      refine RunL.val (Val.pure rfl) rfl rfl rfl ?_
      refine RunL.nil ?_
      refine RunE.next ?_
      refine RunC.ret ?_
      exact RunE.retP (.r2 rfl (.tmp rfl) (.tmp rfl)) (by simp)
end Go.Proofs.YtlhdalcipflblaaDoor
/- The facts on the tables of types and on the entries of functions that the walks use. Written by program. -/
set_option linter.unusedSimpArgs false
set_option linter.unusedVariables false
namespace Go.Proofs.YtlhdalcipflblaaDoor
open Go Go.Eng
theorem ap_86 : apB Tryd.prog 86 = some (34, 1, 24) := by kernel_rfl
theorem sl_86 : slB Tryd.prog 86 = some (34, 1) := by kernel_rfl
theorem zero_34 : zeroB Tryd.prog 34 = some [.slice none 0 0] := by kernel_rfl
end Go.Proofs.YtlhdalcipflblaaDoor
/- Walks of the reference of layer 10: ways, where all cards have an entry. -/
set_option linter.unusedSimpArgs false
set_option linter.unusedVariables false
namespace Go.Hp
open Go Go.Eng Go.Pw1
/-- A way that is made, and where it lies. -/
structure WB where
  l : List Nat
  x : Eng.Own
def WB.cells (B : WB) : List Value := [.slice (ownQ B.x) B.l.length (ownC B.x)]
/-- The rows of the ways, the last one first in the list. -/
def wRows (LL : List WB) : List Value := (LL.reverse.map WB.cells).flatten
def wR (LL : List WB) : Blks := (LL.map fun B => ownB 3 B.x (intsW (natI B.l)).flatten).flatten
theorem wRows_cons (B : WB) (LL : List WB) : wRows (B :: LL) = wRows LL ++ [.slice (ownQ B.x) B.l.length (ownC B.x)] := by simp [wRows, WB.cells]
theorem wR_cons (B : WB) (LL : List WB) : wR (B :: LL) = ownB 3 B.x (intsW (natI B.l)).flatten ++ wR LL := by simp [wR]
end Go.Hp
namespace Go.Proofs.YtlhdalcipflblaaDoor
open Go Go.Eng Go.Hp Go.Pw1

theorem rways_leaf (m : MxA) (W0 w : World) (x bg : Eng.Own) (LL : List WB) (begin : List Nat) (rest : Blks) (hm0 : Mem W0 [] (ownB 34 x (wRows LL) ++ (ownB 3 bg (intsW (natI begin)).flatten ++ (wR LL ++ (rest ++ [])))) w) (hx : OwnOk 1 x LL.length (wRows LL)) (hbg : OwnOk 1 bg begin.length (intsW (natI begin)).flatten) (hlen : begin.length = m.cards.length) (hl : LL.length ≤ 1000000) (hl8 : begin.length ≤ 8) :
    Calls Tryd.prog 69 #[m.v, .slice (ownQ bg) begin.length (ownC bg), ownV x LL.length] w (Grow W0 [] (fun y : Eng.Own × List WB => ownV y.1 y.2.length) (fun y => ownB 34 y.1 (wRows y.2) ++ (wR y.2 ++ (rest ++ []))) (fun y => OwnOk 1 y.1 y.2.length (wRows y.2) ∧ y.2 = ⟨begin, bg⟩ :: LL)) := by
  refine calls_from hm0 Tryd.func69 rfl rfl ?_
  refine RunC.seq ?_
  refine RunC.region ?_
  refine RunL.new (New.box rfl) rfl rfl rfl (fun b3 => ?_)
  refine RunL.val (Val.pure rfl) rfl rfl rfl ?_
  refine RunL.nil ?_
  refine RunE.next ?_
  refine RunC.seq ?_
  refine RunC.seq ?_
  refine RunC.region ?_
  refine RunL.val (Val.pure rfl) rfl rfl rfl ?_
  refine RunL.val (Val.len_sl rfl sl_34) rfl rfl rfl ?_
  refine RunL.val (Val.fieldAddr rfl fld_25_1) rfl rfl rfl ?_
  refine RunL.val (Val.load_one rfl (.head _) ty_23 rfl) rfl rfl rfl ?_
  refine RunL.val (Val.len_sl rfl sl_23) rfl rfl rfl ?_
  refine RunL.val (Val.pure rfl) rfl rfl rfl ?_
  refine RunL.nil ?_
  refine RunE.next ?_
  refine RunC.cond rfl ?_ (fun h => absurd h (by simp [hlen]))
  intro c0
  clear c0
  refine RunC.seq ?_
  refine RunC.region ?_
  refine RunL.val (Val.pure rfl) rfl rfl rfl ?_
  refine RunL.val (Val.pure rfl) rfl rfl rfl ?_
  refine RunL.new (New.buildSlice (parts := [(0, .tmp 16)]) rfl sl_86 zero_34 rfl rfl rfl rfl) rfl rfl rfl (fun b17 => ?_)
  refine RunL.append (A := [(b17, _), (b3, _)]) (B := _) (x := x) (ys := [.slice (ownQ bg) begin.length (ownC bg)]) ap_86 rfl rfl rfl hx rfl (fun h => by cases h) (fun w hm => src_blk (hm.at (.head _))) (one_of rfl) (by simp only [maxLen]; omega) (by omega) rfl (fun z18 hz18 => ?_)
  refine RunL.val (Val.pure rfl) rfl rfl rfl ?_
  refine RunL.nil ?_
  refine RunE.next ?_
  refine RunC.ret ?_
  refine RunE.pass_ret ?_
  exact RunE.retG (z18, ⟨begin, bg⟩ :: LL) ⟨(by rw [wRows_cons]; exact hz18), rfl⟩ (.r1 rfl (.tmp rfl)) rfl (by simp only [wRows_cons, wR_cons, List.append_assoc]; exact (Pick.skip (Pick.skip (Pick.refl _))))
end Go.Proofs.YtlhdalcipflblaaDoor
/- The facts on the tables of types and on the entries of functions that the walks use. Written by program. -/
set_option linter.unusedSimpArgs false
set_option linter.unusedVariables false
namespace Go.Proofs.YtlhdalcipflblaaDoor
open Go Go.Eng
theorem ent_58 : Enters Tryd.prog 58 := enters_of Tryd.func58 (by kernel_rfl) rfl
theorem ent_69 : Enters Tryd.prog 69 := enters_of Tryd.func69 (by kernel_rfl) rfl
end Go.Proofs.YtlhdalcipflblaaDoor
/- Walks of the reference of layer 10: ways. -/
set_option linter.unusedSimpArgs false
set_option linter.unusedVariables false
namespace Go.Hp
open Go Go.Eng Go.Pw1
theorem own_nilQ {sz n : Nat} {x : Eng.Own} {xs : List Value} (h : OwnOk sz x n xs) : ownQ x = none → n = 0 ∧ ownC x = 0 := fun e => by
  match x, h, e with
  | none, h, _ => exact ⟨h.nil rfl, rfl⟩
structure GoodO (y : Eng.Own × List WB) (base : List (List Nat)) : Prop where
  ok : OwnOk 1 y.1 y.2.length (wRows y.2)
  each : ∀ B ∈ y.2, OwnOk 1 B.x B.l.length (intsW (natI B.l)).flatten
  ls : y.2.reverse.map WB.l = base
theorem GoodO.len {y : Eng.Own × List WB} {base : List (List Nat)} (h : GoodO y base) : y.2.length = base.length := by rw [← h.ls]; simp
end Go.Hp
namespace Go.Proofs.YtlhdalcipflblaaDoor
open Go Go.Eng Go.Hp Go.Pw1

theorem rways_calls (m : MxA) (hsm : MSm m) (hX : mixedX m.pl = true) (W0 : World) (hM : MOk W0 m) : ∀ (n : Nat) (begin : List Nat) (u : Nat) (_ : begin.length + n = m.cards.length) (_ : ∀ x, u.testBit x = decide (x ∈ begin)) (x bg : Eng.Own) (LL : List WB) (base : List (List Nat)) (rest : Blks) (w : World) (hm0 : Mem W0 [] (ownB 34 x (wRows LL) ++ (ownB 3 bg (intsW (natI begin)).flatten ++ (wR LL ++ (rest ++ [])))) w) (_ : GoodO (x, LL) base) (hbg : OwnOk 1 bg begin.length (intsW (natI begin)).flatten) (_ : base.length + (waysB (esX m).length (fsX m.pl) begin u).length ≤ 100000),
    Calls Tryd.prog 69 #[m.v, .slice (ownQ bg) begin.length (ownC bg), ownV x LL.length] w (Grow W0 [] (fun y : Eng.Own × List WB => ownV y.1 y.2.length) (fun y => ownB 34 y.1 (wRows y.2) ++ (wR y.2 ++ (rest ++ []))) (fun y => GoodO y (base ++ waysB (esX m).length (fsX m.pl) begin u))) := by
  obtain ⟨h4, h8, h12⟩ := mixed_ok hX
  have hfl := fs_len m
  intro n
  induction n with
  | zero =>
    intro begin u hn hu x bg LL base rest w hm0 hG hbg hl
    have hlen := hG.len
    dsimp only at hlen
    have e := waysB_end (ne := (esX m).length) (fs := fsX m.pl) (begin := begin) (u := u) (by omega)
    rw [e]
    refine calls_mono (rways_leaf m W0 w x bg LL begin rest hm0 hG.ok hbg (by omega) (by omega) (by omega)) ?_
    rintro ed w' ⟨y, ⟨h1, h2⟩, rfl, hm⟩
    refine ⟨y, ⟨h1, fun B hB => ?_, ?_⟩, rfl, hm⟩
    · rw [h2] at hB
      rcases List.mem_cons.1 hB with rfl | hB
      · exact hbg
      · exact hG.each B hB
    · rw [h2, List.reverse_cons, List.map_append, ← hG.ls]
      rfl
  | succ n ih =>
    intro begin u hn hu x bg LL base rest w hm0 hG hbg hl
    have hlt : begin.length < (fsX m.pl).length := by omega
    obtain ⟨f, hf⟩ : ∃ f, (fsX m.pl).getD begin.length 0 = f := ⟨_, rfl⟩
    have hfm : f < 4096 := by
      rw [getD_at hlt rfl] at hf
      rw [← hf]
      exact Nat.lt_of_lt_of_le (fs_lt m _ (List.getElem_mem hlt)) (show 2 ^ (esX m).length ≤ 2 ^ 12 from Nat.pow_le_pow_right (by decide) h12)
    rw [waysB_next hlt hf] at hl ⊢
    have hx := hG.ok
    dsimp only at hx
    have hw : ∀ (k : Nat) (yx bg' : Eng.Own) (yL : List WB) (hk : k < (esX m).length) (hf : free f u k = true) (_ : OwnOk 1 bg' (begin ++ [k]).length (intsW (natI (begin ++ [k]))).flatten) (_ : GoodO (yx, yL) (base ++ waysK (esX m).length (fsX m.pl) begin u f k)) (b3 b44 : Nat) (o3 o44 : Obj) (w : World) (_ : Mem W0 [] ((b44, o44) :: (b3, o3) :: (ownB 3 bg' (intsW (natI (begin ++ [k]))).flatten ++ (ownB 34 yx (wRows yL) ++ (ownB 3 bg (intsW (natI begin)).flatten ++ (wR yL ++ (rest ++ [])))))) w),
        Calls Tryd.prog 69 #[m.v, .slice (ownQ bg') (begin ++ [k]).length (ownC bg'), ownV yx yL.length] w (Grow W0 [] (fun y : Eng.Own × List WB => ownV y.1 y.2.length) (fun y => (b3, o3) :: (ownB 34 y.1 (wRows y.2) ++ (ownB 3 bg (intsW (natI begin)).flatten ++ (wR y.2 ++ (rest ++ []))))) (fun y => GoodO y (base ++ waysK (esX m).length (fsX m.pl) begin u f (k + 1)))) := by
      intro k yx bg' yL hk hfr hb hG2 b3 b44 o3 o44 w hm
      have hle := waysK_le (ne := (esX m).length) (fs := fsX m.pl) (begin := begin) (u := u) hk hfr
      refine calls_mono (ih (begin ++ [k]) (u ||| 2 ^ k) (by simp; omega) (bits_snoc hu) yx bg' yL _ ((b3, o3) :: (ownB 3 bg (intsW (natI begin)).flatten ++ rest)) w (hm.pick (Pick.cnt fun x => by simp only [List.count_append, List.count_cons, List.count_nil]; omega)) hG2 hb (by rw [List.length_append]; omega)) ?_
      rintro ed w' ⟨y, hy, rfl, hm'⟩
      refine ⟨y, ?_, rfl, hm'.pick (Pick.cnt fun x => by simp only [List.cons_append, List.count_append, List.count_cons, List.count_nil]; omega)⟩
      rw [waysK_s, if_pos hfr, ← List.append_assoc]
      exact hy
    refine calls_from hm0 Tryd.func69 rfl rfl ?_
    refine RunC.seq ?_
    refine RunC.region ?_
    refine RunL.new (New.box rfl) rfl rfl rfl (fun b3 => ?_)
    refine RunL.val (Val.pure rfl) rfl rfl rfl ?_
    refine RunL.nil ?_
    refine RunE.next ?_
    refine RunC.seq ?_
    refine RunC.seq ?_
    refine RunC.region ?_
    refine RunL.val (Val.pure rfl) rfl rfl rfl ?_
    refine RunL.val (Val.len_sl rfl sl_34) rfl rfl rfl ?_
    refine RunL.val (Val.fieldAddr rfl fld_25_1) rfl rfl rfl ?_
    refine RunL.val (Val.load_one rfl (.head _) ty_23 rfl) rfl rfl rfl ?_
    refine RunL.val (Val.len_sl rfl sl_23) rfl rfl rfl ?_
    refine RunL.val (Val.pure rfl) rfl rfl rfl ?_
    refine RunL.nil ?_
    refine RunE.next ?_
    refine RunC.cond rfl (fun h => absurd h (by simp; omega)) ?_
    intro c0
    clear c0
    refine RunC.skip ?_
    refine RunE.next ?_
    refine RunC.seq ?_
    refine RunC.region ?_
    refine RunL.val (Val.load_agg rfl (.head _) ty_25 rfl) rfl rfl rfl ?_
    refine RunL.val (Val.pure rfl) rfl rfl rfl ?_
    refine RunL.val (Val.len_sl rfl sl_34) rfl rfl rfl ?_
    refine RunL.callP (isCall_func rfl ent_43) rfl rfl rfl (fun w hm => rfits_calls m hsm hX begin.length (by omega) f hf w (hM.mono0 hm)) ?_
    refine RunL.val (Val.pure rfl) rfl rfl rfl ?_
    refine RunL.nil ?_
    refine RunE.next ?_
    refine RunC.seq ?_
    refine RunC.seq ?_
    refine RunC.region ?_
    refine RunL.val (Val.pure rfl) rfl rfl rfl ?_
    refine RunL.nil ?_
    refine RunE.next ?_
    refine RunC.block ?_
    refine RunC.loopX (X := Eng.Own × List WB) (n0 := [(b3, _)]) ((esX m).length) (fun k y q => (8, .int .i64 (k : Int)) :: (2, ownV y.1 y.2.length) :: q) (fun _ _ => _) (fun k y => []) (fun k y => ownB 34 y.1 (wRows y.2) ++ (ownB 3 bg (intsW (natI begin)).flatten ++ (wR y.2 ++ (rest ++ [])))) (fun k y => GoodO y (base ++ waysK (esX m).length (fsX m.pl) begin u f k)) (x, LL) (by have e : waysK (esX m).length (fsX m.pl) begin u f 0 = [] := rfl; rw [e, List.append_nil]; exact hG) rfl (Sub.consE (t := 8) rfl rfl (Sub.consE (t := 2) rfl rfl (Sub.cons (t := 1) rfl (Sub.cons (t := 3) rfl (Sub.cons (t := 7) rfl (Sub.nil _)))))) (.cons .here rfl (Pick.same rfl)) ?_
    intro k y kN kI
    obtain ⟨yx, yL⟩ := y
    have hyx := kI.ok
    dsimp only at hyx ⊢
    refine RunC.seq ?_
    refine RunC.seq ?_
    refine RunC.region ?_
    refine RunL.val (Val.pure rfl) rfl rfl rfl ?_
    refine RunL.val (Val.load_agg rfl (.head _) ty_25 rfl) rfl rfl rfl ?_
    refine RunL.callNA [(b3, _)] _ rfl (isCall_func rfl ent_34) rfl rfl rfl (fun w hm => rEntries_calls m hsm hX w (hM.mono0 hm)) (fun z25 => ?_)
    obtain ⟨x25, hx25⟩ := z25
    dsimp only
    refine RunL.val (Val.len_sl rfl sl_53) rfl rfl rfl ?_
    refine RunL.val (Val.pure rfl) rfl rfl rfl ?_
    refine RunL.nil ?_
    refine RunE.next ?_
    refine RunC.cond rfl ?_ ?_
    · intro c1
      have c1' := c1; clear c1
      try simp only [decide_eq_true_eq, decide_eq_false_iff_not, Bool.not_eq_true', Bool.not_eq_false', Bool.and_eq_true, Bool.or_eq_true, Bool.and_eq_false_iff, Bool.or_eq_false_iff, Int.not_le, Int.not_lt] at c1'
      have hk : k < (esX m).length := by omega
      refine RunC.skip ?_
      refine RunE.next ?_
      refine RunC.seq ?_
      refine RunC.block ?_
      refine RunC.seq ?_
      refine RunC.region ?_
      refine RunL.val (Val.pure rfl) rfl rfl rfl ?_
      refine RunL.val (Val.pure rfl) rfl rfl rfl ?_
      refine RunL.callP (isCall_func rfl ent_49) rfl rfl rfl (fun w hm => rHas_calls f k (by omega) (by omega) w) ?_
      refine RunL.val (Val.pure rfl) rfl rfl rfl ?_
      refine RunL.andPart (dj := 33) (dp := 38) 5 rfl (fun g33 => by
        have g33' := g33
        try simp only [decide_eq_true_eq, decide_eq_false_iff_not, Bool.not_eq_true', Bool.not_eq_false', Bool.and_eq_true, Bool.or_eq_true, Bool.and_eq_false_iff, Bool.or_eq_false_iff, Int.not_le, Int.not_lt] at g33'
        refine RunL.val (Val.pure rfl) rfl rfl rfl ?_
        refine RunL.val (Val.pure rfl) rfl rfl rfl ?_
        refine RunL.callP (isCall_func rfl ent_58) rfl rfl rfl (fun w hm => rhas_calls begin (by omega) k _ _ 0 _ w (ints_sl (l := natI begin) (by rw [natI_len]; exact hbg) (fun b o h => hm.at (.tail _ ((by first | exact List.mem_append_right _ (List.mem_append_right _ (List.mem_append_left _ h)) | exact List.mem_append_right _ (List.mem_append_right _ (List.mem_append_right _ (List.mem_append_left _ h))))))))) ?_
        refine RunL.val (Val.pure rfl) rfl rfl rfl ?_
        refine RunL.val (Val.pure rfl) rfl rfl rfl ?_
        exact RunL.segEnd (Sub.cons rfl (Sub.skip rfl (Sub.skip rfl (Sub.skip rfl (Sub.skip rfl (Sub.skip rfl (Sub.same rfl (by rw [g33]) (Sub.refl _)))))))) (List.Sublist.refl _)
      ) (fun g33 => by
        have g33' := g33
        try simp only [decide_eq_true_eq, decide_eq_false_iff_not, Bool.not_eq_true', Bool.not_eq_false', Bool.and_eq_true, Bool.or_eq_true, Bool.and_eq_false_iff, Bool.or_eq_false_iff, Int.not_le, Int.not_lt] at g33'
        iterate 4 refine RunL.no rfl rfl rfl ?_
        refine RunL.val (Val.pure rfl) rfl rfl rfl ?_
        exact RunL.segEnd (Sub.cons rfl (Sub.skip rfl (Sub.skip rfl (Sub.skip rfl (Sub.skip rfl (Sub.skip rfl (Sub.same rfl (by rw [g33]) (Sub.refl _)))))))) (List.Sublist.refl _)
      ) ?_
      refine RunL.nil ?_
      refine RunE.next ?_
      refine RunC.cond rfl ?_ ?_
      · intro c2
        have c2' := c2; clear c2
        try simp only [decide_eq_true_eq, decide_eq_false_iff_not, Bool.not_eq_true', Bool.not_eq_false', Bool.and_eq_true, Bool.or_eq_true, Bool.and_eq_false_iff, Bool.or_eq_false_iff, Int.not_le, Int.not_lt] at c2'
        have hfr : free f u k = true := by (simp only [free, hu]; simpa using c2')
        refine RunC.drawX (X := Eng.Own × List WB) 8 (n0 := [(b3, _)]) (fun yq q => (2, ownV yq.1 yq.2.length) :: q) (fun yq => []) (fun yq => []) (fun yq => ownB 34 yq.1 (wRows yq.2) ++ (ownB 3 bg (intsW (natI begin)).flatten ++ (wR yq.2 ++ (rest ++ [])))) (fun yq => GoodO yq (base ++ waysK (esX m).length (fsX m.pl) begin u f (k + 1))) fol_ (.cons .here rfl .nil) (Sub.cons (t := 1) rfl (Sub.cons (t := 3) rfl (Sub.cons (t := 7) rfl (Sub.cons (t := 8) rfl (Sub.nil _))))) (.cons .here rfl .nil) ?_ ?_
        · refine RunA.val (i := 0) rfl (by kernel_rfl) (by kernel_rfl) (Val.load_agg rfl (.head _) ty_25 rfl) rfl rfl rfl (fun _ _ _ h => h) (.cons .here rfl .nil) rfl ?_
          refine RunA.val (i := 2) rfl (by kernel_rfl) (by kernel_rfl) (Val.pure rfl) rfl rfl rfl (fun _ _ _ h => h) (.cons .here rfl .nil) rfl ?_
          refine RunA.val (i := 4) rfl (by kernel_rfl) (by kernel_rfl) (Val.pure rfl) rfl rfl rfl (fun _ _ _ h => h) (.cons .here rfl .nil) rfl ?_
          refine RunA.val (i := 7) rfl (by kernel_rfl) (by kernel_rfl) (Val.pure rfl) rfl rfl rfl (fun _ _ _ h => h) (.cons .here rfl .nil) rfl ?_
          refine RunA.all (rs := [1, 5]) (by kernel_rfl) (by simp) (by kernel_rfl) (fun m hm => ?_)
          simp only [List.mem_cons, List.not_mem_nil, or_false] at hm
          rcases hm with rfl | rfl
          · refine RunI.new rfl (New.buildSlice0 sl_34) rfl rfl rfl (fun b40 => (RunK.toA (.cons (.there .here) rfl .nil) (.cons .here rfl .nil) rfl ?_))
            refine RunA.all (rs := [3, 5]) (by kernel_rfl) (by simp) (by kernel_rfl) (fun m hm => ?_)
            simp only [List.mem_cons, List.not_mem_nil, or_false] at hm
            rcases hm with rfl | rfl
            · refine RunI.keep (Sub.refl _) (.cons (.there .here) rfl (.cons .here rfl (Pick.refl _))) ?_
              refine RunI.append (A := [(b3, _)]) (B := _) (x := (some (b40, 0, []))) (ys := (intsW (natI begin)).flatten) rfl ap_34 rfl rfl rfl OwnOk.empty (by rw [ints_fl, natI_len]) (own_nilQ hbg) (fun w hm => (ints_sl (l := natI begin) (by rw [natI_len]; exact hbg) (fun b o h => hm.at (.tail _ (.tail _ ((by first | exact List.mem_append_right _ (List.mem_append_right _ (List.mem_append_left _ h)) | exact List.mem_append_right _ (List.mem_append_right _ (List.mem_append_right _ (List.mem_append_left _ h))))))))).flat (by decide)) (one_flat (f := fun a : Int => [Value.int .i64 a]) (fun _ => rfl) (natI begin)) (by simp only [maxLen]; omega) (by omega) rfl (fun z42 hz42 => (RunK.toA (.cons .here rfl .nil) (.cons .here rfl .nil) rfl ?_))
              refine RunA.one (i := 5) (by kernel_rfl) (by kernel_rfl) ?_
              refine RunI.new rfl (New.buildSlice (parts := [(0, .tmp 43)]) rfl sl_34 zero_3 rfl rfl rfl rfl) rfl rfl rfl (fun b44 => (RunK.toA (.cons .here rfl (.cons .here rfl .nil)) (.cons (.there .here) rfl .nil) rfl ?_))
              refine RunA.one (i := 6) (by kernel_rfl) (by kernel_rfl) ?_
              refine RunI.append (A := [(b44, _), (b3, _)]) (B := _) (x := z42) (ys := [.int .i64 (k : Int)]) rfl ap_34 rfl rfl rfl hz42 rfl (fun h => by cases h) (fun w hm => src_blk (hm.at (.head _))) (one_of rfl) (by simp only [maxLen]; omega) (by omega) rfl (fun z45 hz45 => (RunK.toA (.cons .here rfl (.cons .here rfl .nil)) (.cons .here rfl (.cons .here rfl .nil)) rfl ?_))
              refine RunA.toB (by kernel_rfl) ?_
              refine RunB.one (i := 8) (by kernel_rfl) ?_
              have hz45n : OwnOk 1 z45 (begin ++ [k]).length (intsW (natI (begin ++ [k]))).flatten := by (have h := hz45; simp only [List.nil_append, Nat.zero_add] at h; simpa [intsW, natI] using h)
              have eys : [] ++ (intsW (natI begin)).flatten ++ [.int .i64 (k : Int)] = (intsW (natI (begin ++ [k]))).flatten := by (simp [intsW, natI])
              have e45 : ownV z45 (0 + begin.length + 1) = .slice (ownQ z45) (begin ++ [k]).length (ownC z45) := by (rw [ownV_slice hz45]; simp)
              refine RunI.callG rfl (isCall_func rfl ent_69) rfl rfl rfl (fun w hm => (by rw [e45]; rw [eys] at hm; exact hw k yx z45 yL hk hfr hz45n kI b3 b44 _ _ w (hm.pick (.cons .here rfl (.cons .here rfl (Pick.cnt fun x => by simp only [List.append_eq, List.nil_append, List.cons_append, List.count_append, List.count_cons, List.count_nil]; omega)))))) (fun z47 hz47 => (RunK.toB ?_))
              refine RunB.one (i := 9) (by kernel_rfl) ?_
              refine RunI.val rfl (Val.pure rfl) rfl rfl rfl (RunK.toB ?_)
              refine RunB.done (by kernel_rfl) ?_
              exact RunE.joinX z47 hz47 rfl (Sub.consE (t := 2) rfl rfl (Sub.cons (t := 1) rfl (Sub.cons (t := 3) rfl (Sub.cons (t := 7) rfl (Sub.cons (t := 8) rfl (Sub.nil _)))))) (.cons .here rfl (Pick.same rfl))
            · refine RunI.new rfl (New.buildSlice (parts := [(0, .tmp 43)]) rfl sl_34 zero_3 rfl rfl rfl rfl) rfl rfl rfl (fun b44 => (RunK.toA (.cons .here rfl (.cons (.there .here) rfl .nil)) (.cons (.there .here) rfl .nil) rfl ?_))
              refine RunA.one (i := 3) (by kernel_rfl) (by kernel_rfl) ?_
              refine RunI.keep (Sub.refl _) (.cons .here rfl (.cons (.there .here) rfl (.cons .here rfl (Pick.refl _)))) ?_
              refine RunI.append (A := [(b44, _), (b3, _)]) (B := _) (x := (some (b40, 0, []))) (ys := (intsW (natI begin)).flatten) rfl ap_34 rfl rfl rfl OwnOk.empty (by rw [ints_fl, natI_len]) (own_nilQ hbg) (fun w hm => (ints_sl (l := natI begin) (by rw [natI_len]; exact hbg) (fun b o h => hm.at (.tail _ (.tail _ (.tail _ ((by first | exact List.mem_append_right _ (List.mem_append_right _ (List.mem_append_left _ h)) | exact List.mem_append_right _ (List.mem_append_right _ (List.mem_append_right _ (List.mem_append_left _ h)))))))))).flat (by decide)) (one_flat (f := fun a : Int => [Value.int .i64 a]) (fun _ => rfl) (natI begin)) (by simp only [maxLen]; omega) (by omega) rfl (fun z42 hz42 => (RunK.toA (.cons .here rfl (.cons .here rfl .nil)) (.cons .here rfl (.cons .here rfl .nil)) rfl ?_))
              refine RunA.one (i := 6) (by kernel_rfl) (by kernel_rfl) ?_
              refine RunI.append (A := [(b44, _), (b3, _)]) (B := _) (x := z42) (ys := [.int .i64 (k : Int)]) rfl ap_34 rfl rfl rfl hz42 rfl (fun h => by cases h) (fun w hm => src_blk (hm.at (.head _))) (one_of rfl) (by simp only [maxLen]; omega) (by omega) rfl (fun z45 hz45 => (RunK.toA (.cons .here rfl (.cons .here rfl .nil)) (.cons .here rfl (.cons .here rfl .nil)) rfl ?_))
              refine RunA.toB (by kernel_rfl) ?_
              refine RunB.one (i := 8) (by kernel_rfl) ?_
              have hz45n : OwnOk 1 z45 (begin ++ [k]).length (intsW (natI (begin ++ [k]))).flatten := by (have h := hz45; simp only [List.nil_append, Nat.zero_add] at h; simpa [intsW, natI] using h)
              have eys : [] ++ (intsW (natI begin)).flatten ++ [.int .i64 (k : Int)] = (intsW (natI (begin ++ [k]))).flatten := by (simp [intsW, natI])
              have e45 : ownV z45 (0 + begin.length + 1) = .slice (ownQ z45) (begin ++ [k]).length (ownC z45) := by (rw [ownV_slice hz45]; simp)
              refine RunI.callG rfl (isCall_func rfl ent_69) rfl rfl rfl (fun w hm => (by rw [e45]; rw [eys] at hm; exact hw k yx z45 yL hk hfr hz45n kI b3 b44 _ _ w (hm.pick (.cons .here rfl (.cons .here rfl (Pick.cnt fun x => by simp only [List.append_eq, List.nil_append, List.cons_append, List.count_append, List.count_cons, List.count_nil]; omega)))))) (fun z47 hz47 => (RunK.toB ?_))
              refine RunB.one (i := 9) (by kernel_rfl) ?_
              refine RunI.val rfl (Val.pure rfl) rfl rfl rfl (RunK.toB ?_)
              refine RunB.done (by kernel_rfl) ?_
              exact RunE.joinX z47 hz47 rfl (Sub.consE (t := 2) rfl rfl (Sub.cons (t := 1) rfl (Sub.cons (t := 3) rfl (Sub.cons (t := 7) rfl (Sub.cons (t := 8) rfl (Sub.nil _)))))) (.cons .here rfl (Pick.same rfl))
          · refine RunI.new rfl (New.buildSlice (parts := [(0, .tmp 43)]) rfl sl_34 zero_3 rfl rfl rfl rfl) rfl rfl rfl (fun b44 => (RunK.toA (.cons .here rfl (.cons .here rfl .nil)) (.cons (.there .here) rfl .nil) rfl ?_))
            refine RunA.one (i := 1) (by kernel_rfl) (by kernel_rfl) ?_
            refine RunI.new rfl (New.buildSlice0 sl_34) rfl rfl rfl (fun b40 => (RunK.toA (.cons (.there .here) rfl (.cons (.there .here) rfl .nil)) (.cons .here rfl (.cons .here rfl .nil)) rfl ?_))
            refine RunA.one (i := 3) (by kernel_rfl) (by kernel_rfl) ?_
            refine RunI.keep (Sub.refl _) (.cons (.there .here) rfl (.cons (.there .here) rfl (.cons .here rfl (Pick.refl _)))) ?_
            refine RunI.append (A := [(b44, _), (b3, _)]) (B := _) (x := (some (b40, 0, []))) (ys := (intsW (natI begin)).flatten) rfl ap_34 rfl rfl rfl OwnOk.empty (by rw [ints_fl, natI_len]) (own_nilQ hbg) (fun w hm => (ints_sl (l := natI begin) (by rw [natI_len]; exact hbg) (fun b o h => hm.at (.tail _ (.tail _ (.tail _ ((by first | exact List.mem_append_right _ (List.mem_append_right _ (List.mem_append_left _ h)) | exact List.mem_append_right _ (List.mem_append_right _ (List.mem_append_right _ (List.mem_append_left _ h)))))))))).flat (by decide)) (one_flat (f := fun a : Int => [Value.int .i64 a]) (fun _ => rfl) (natI begin)) (by simp only [maxLen]; omega) (by omega) rfl (fun z42 hz42 => (RunK.toA (.cons .here rfl (.cons .here rfl .nil)) (.cons .here rfl (.cons .here rfl .nil)) rfl ?_))
            refine RunA.one (i := 6) (by kernel_rfl) (by kernel_rfl) ?_
            refine RunI.append (A := [(b44, _), (b3, _)]) (B := _) (x := z42) (ys := [.int .i64 (k : Int)]) rfl ap_34 rfl rfl rfl hz42 rfl (fun h => by cases h) (fun w hm => src_blk (hm.at (.head _))) (one_of rfl) (by simp only [maxLen]; omega) (by omega) rfl (fun z45 hz45 => (RunK.toA (.cons .here rfl (.cons .here rfl .nil)) (.cons .here rfl (.cons .here rfl .nil)) rfl ?_))
            refine RunA.toB (by kernel_rfl) ?_
            refine RunB.one (i := 8) (by kernel_rfl) ?_
            have hz45n : OwnOk 1 z45 (begin ++ [k]).length (intsW (natI (begin ++ [k]))).flatten := by (have h := hz45; simp only [List.nil_append, Nat.zero_add] at h; simpa [intsW, natI] using h)
            have eys : [] ++ (intsW (natI begin)).flatten ++ [.int .i64 (k : Int)] = (intsW (natI (begin ++ [k]))).flatten := by (simp [intsW, natI])
            have e45 : ownV z45 (0 + begin.length + 1) = .slice (ownQ z45) (begin ++ [k]).length (ownC z45) := by (rw [ownV_slice hz45]; simp)
            refine RunI.callG rfl (isCall_func rfl ent_69) rfl rfl rfl (fun w hm => (by rw [e45]; rw [eys] at hm; exact hw k yx z45 yL hk hfr hz45n kI b3 b44 _ _ w (hm.pick (.cons .here rfl (.cons .here rfl (Pick.cnt fun x => by simp only [List.append_eq, List.nil_append, List.cons_append, List.count_append, List.count_cons, List.count_nil]; omega)))))) (fun z47 hz47 => (RunK.toB ?_))
            refine RunB.one (i := 9) (by kernel_rfl) ?_
            refine RunI.val rfl (Val.pure rfl) rfl rfl rfl (RunK.toB ?_)
            refine RunB.done (by kernel_rfl) ?_
            exact RunE.joinX z47 hz47 rfl (Sub.consE (t := 2) rfl rfl (Sub.cons (t := 1) rfl (Sub.cons (t := 3) rfl (Sub.cons (t := 7) rfl (Sub.cons (t := 8) rfl (Sub.nil _)))))) (.cons .here rfl (Pick.same rfl))
        · intro yq yqI
          refine RunE.block_normal ?_
          refine RunE.next ?_
          refine RunC.region ?_
          refine RunL.val (Val.pure rfl) rfl rfl rfl ?_
          refine RunL.val (Val.add rfl rfl (IntWalk.i64_in _ ⟨by omega, by omega⟩)) rfl rfl rfl ?_
          refine RunL.val (Val.pure rfl) rfl rfl rfl ?_
          refine RunL.nil ?_
          exact RunE.roundX yq (by omega) yqI rfl (Sub.consE (t := 8) rfl rfl (Sub.consE (t := 2) rfl rfl (Sub.cons (t := 1) rfl (Sub.cons (t := 3) rfl (Sub.cons (t := 7) rfl (Sub.nil _)))))) (.cons .here rfl (Pick.refl _))
      · intro c2
        have c2' := c2; clear c2
        try simp only [decide_eq_true_eq, decide_eq_false_iff_not, Bool.not_eq_true', Bool.not_eq_false', Bool.and_eq_true, Bool.or_eq_true, Bool.and_eq_false_iff, Bool.or_eq_false_iff, Int.not_le, Int.not_lt] at c2'
        have hfr : ¬ free f u k = true := by (simp only [free, hu]; rcases c2' with h | h <;> simp [h])
        refine RunC.skip ?_
        refine RunE.block_normal ?_
        refine RunE.next ?_
        refine RunC.region ?_
        refine RunL.val (Val.pure rfl) rfl rfl rfl ?_
        refine RunL.val (Val.add rfl rfl (IntWalk.i64_in _ ⟨by omega, by omega⟩)) rfl rfl rfl ?_
        refine RunL.val (Val.pure rfl) rfl rfl rfl ?_
        refine RunL.nil ?_
        exact RunE.roundX (yx, yL) (by omega) (by rw [waysK_s, if_neg hfr, List.append_nil]; exact kI) rfl (Sub.consE (t := 8) rfl rfl (Sub.consE (t := 2) rfl rfl (Sub.cons (t := 1) rfl (Sub.cons (t := 3) rfl (Sub.cons (t := 7) rfl (Sub.nil _)))))) (.cons .here rfl (Pick.cnt fun x => by simp only [List.append_eq, List.nil_append, List.cons_append, List.count_append, List.count_cons, List.count_nil]; omega))
    · intro c1
      have c1' := c1; clear c1
      try simp only [decide_eq_true_eq, decide_eq_false_iff_not, Bool.not_eq_true', Bool.not_eq_false', Bool.and_eq_true, Bool.or_eq_true, Bool.and_eq_false_iff, Bool.or_eq_false_iff, Int.not_le, Int.not_lt] at c1'
      have hkn : k = (esX m).length := by omega
      refine RunC.exit ?_
      refine RunE.pass_exit ?_
      refine RunE.pass_exit ?_
      refine RunE.block_here ?_
      refine RunE.next ?_
      refine RunC.seq ?_
      refine RunC.region ?_
      refine RunL.val (Val.pure rfl) rfl rfl rfl ?_
      refine RunL.val (Val.pure rfl) rfl rfl rfl ?_
      refine RunL.nil ?_
      refine RunE.next ?_
      refine RunC.ret ?_
      exact RunE.retG (yx, yL) (by have h := kI; rw [hkn] at h; exact h) (.r1 rfl (.tmp rfl)) rfl (Pick.cnt fun x => by simp only [List.append_eq, List.nil_append, List.cons_append, List.count_append, List.count_cons, List.count_nil]; omega)
end Go.Proofs.YtlhdalcipflblaaDoor
/- Layer 10, plain: the order of cards makes no difference. -/
set_option linter.unusedSimpArgs false
set_option linter.unusedVariables false
namespace Go.Hp
open Go Go.Eng Go.Pw1 Go.Proofs.YtlhdalcipflblaaDoor
def Mx.rev (m : Mx) : Mx := ⟨m.boxes, m.cards.reverse⟩
theorem fs_rev (m : Mx) : fsX m.rev = (fsX m).reverse := by
  show m.cards.reverse.map (fitsX m) = (m.cards.map (fitsX m)).reverse
  rw [List.map_reverse]
theorem ne_rev (m : Mx) : neX m.rev = neX m := rfl
theorem mixed_rev (m : Mx) : mixedX m.rev = mixedX m := by
  unfold mixedX Mx.rev
  simp
theorem rev_get {l : List Nat} {k : Nat} (hk : k < l.length) (d : Nat) : l.reverse.getD k d = l.getD (l.length - 1 - k) d := by
  have h1 : k < l.reverse.length := by simpa using hk
  have h2 : l.length - 1 - k < l.length := by omega
  simp only [List.getD_eq_getElem?_getD, List.getElem?_eq_getElem h1, List.getElem?_eq_getElem h2, Option.getD_some, List.getElem_reverse]
theorem nodup_rev {l : List Nat} (h : l.Nodup) : l.reverse.Nodup := by
  rw [List.nodup_iff_pairwise_ne, List.pairwise_reverse]
  exact h.imp fun h e => h e.symm
theorem way_rev {ne : Nat} {fs l : List Nat} (h : Way ne fs 0 l) : Way ne fs.reverse 0 l.reverse := by
  refine ⟨by simp [h.len], fun k hk => ?_, fun x _ => by simp, nodup_rev h.nd⟩
  have hk2 : k < l.length := by simpa using hk
  have h2 : l.length - 1 - k < l.length := by omega
  rw [List.getElem_reverse, rev_get (by rw [← h.len]; exact hk2), ← h.len]
  exact h.fit _ h2
theorem ways_rev (ne : Nat) (fs : List Nat) : (waysL ne fs.reverse 0).Perm ((waysL ne fs 0).map List.reverse) := by
  refine (List.perm_ext_iff_of_nodup (ways_nd _ _ _) (List.pairwise_map.2 ((ways_nd ne fs 0).imp fun h e => h (List.reverse_inj.1 e)))).2 fun l => ?_
  rw [ways_mem, List.mem_map]
  constructor
  · intro h
    refine ⟨l.reverse, ways_mem.2 ?_, List.reverse_reverse l⟩
    have := way_rev h
    rwa [List.reverse_reverse] at this
  · rintro ⟨x, hx, rfl⟩
    exact way_rev (ways_mem.1 hx)
theorem cnt_rev (ne : Nat) (fs : List Nat) : cntL ne fs.reverse 0 = cntL ne fs 0 := by
  rw [cnt_ways, cnt_ways, (ways_rev ne fs).length_eq, List.length_map]
theorem share_rev {ne : Nat} {fs : List Nat} {c : Nat} (hc : c < fs.length) (e : Nat) : shareL ne fs.reverse (fs.length - 1 - c) e = shareL ne fs c e := by
  rw [share_count (by simp; omega), share_count hc, (ways_rev ne fs).countP_eq, List.countP_map]
  refine List.countP_congr fun l hl => ?_
  have hw := (ways_mem.1 hl).len
  have e1 : l.reverse.getD (fs.length - 1 - c) ne = l.getD c ne := by
    rw [rev_get (by omega)]
    congr 1
    omega
  simp only [Function.comp, keyP, e1]
theorem used_rev {ne : Nat} {fs : List Nat} {e : Nat} (he : e < ne) : usedL ne fs.reverse e = usedL ne fs e := by
  rw [used_count he, used_count he, (ways_rev ne fs).countP_eq, List.countP_map]
  refine List.countP_congr fun l _ => ?_
  simp [Function.comp]
theorem cntX_rev (m : Mx) : cntX m.rev = cntX m := by
  unfold cntX
  rw [fs_rev, ne_rev, cnt_rev]
theorem waysE_rev (m : Mx) : waysE m.rev = waysE m := by
  unfold waysE
  rw [mixed_rev, cntX_rev]
theorem Count_rev (m : Mx) : CountX m.rev = CountX m := by
  unfold CountX
  rw [mixed_rev, cntX_rev]
theorem setOf_congr {p q : Nat → Bool} : ∀ {n : Nat}, (∀ k, k < n → p k = q k) → setOf p n = setOf q n
  | 0, _ => rfl
  | n + 1, h => by
    unfold setOf
    rw [h n (by omega), setOf_congr fun k hk => h k (by omega)]
theorem Lost_rev (m : Mx) : LostX m.rev = LostX m := by
  have e1 : lostX m.rev = lostX m := setOf_congr fun k hk => by
    show decide (usedL (neX m.rev) (fsX m.rev) k = 0) = _
    rw [fs_rev, used_rev hk]; rfl
  have e2 : canX m.rev = canX m := setOf_congr fun k hk => by
    show decide (usedL (neX m.rev) (fsX m.rev) k < cntX m.rev) = _
    rw [fs_rev, used_rev hk, cntX_rev]; rfl
  unfold LostX
  rw [waysE_rev, e1, e2]
theorem lastP_congr {p q : Nat → Bool} : ∀ {n : Nat}, (∀ k, k < n → p k = q k) → lastP p n = lastP q n
  | 0, _ => rfl
  | n + 1, h => by
    unfold lastP
    rw [h n (by omega), lastP_congr fun k hk => h k (by omega)]
theorem sure_rev (m : Mx) {c : Nat} (hc : c < m.cards.length) : sureC m.rev (m.cards.length - 1 - c) = sureC m c := by
  refine lastP_congr fun e _ => ?_
  unfold sureP
  rw [fs_rev, cntX_rev]
  have hl : m.cards.length = (fsX m).length := by simp [fsX]
  rw [hl] at hc ⊢
  rw [share_rev hc]
  rfl
theorem Sure_rev (m : Mx) : (SureX m.rev).2 = (SureX m).2 ∧ (SureX m.rev).1.length = (SureX m).1.length := by
  have hl : m.rev.cards.length = m.cards.length := by simp [Mx.rev]
  unfold SureX
  rw [waysE_rev]
  split
  · simp [hl]
  · simp
theorem Sure_at (m : Mx) {k : Nat} {x y : Int} (hk : k < (SureX m).1.length) (hk2 : (SureX m).1.length - 1 - k < (SureX m.rev).1.length) (hx : (SureX m).1[k] = x) (hy : (SureX m.rev).1[(SureX m).1.length - 1 - k] = y) : x = y := by
  subst hx
  subst hy
  by_cases hw : waysE m = 0
  · have e1 : (SureX m).1 = (List.range m.cards.length).map (sureC m) := by unfold SureX; rw [if_pos hw]
    have e2 : (SureX m.rev).1 = (List.range m.cards.length).map (sureC m.rev) := by
      unfold SureX
      rw [waysE_rev, if_pos hw]
      simp [Mx.rev]
    have e3 : (SureX m).1.length = m.cards.length := by rw [e1]; simp
    have hk3 : k < m.cards.length := by omega
    simp only [e1, e2, List.length_map, List.length_range, List.getElem_map, List.getElem_range]
    exact (sure_rev m hk3).symm
  · have e1 : (SureX m).1 = [] := by unfold SureX; rw [if_neg hw]
    rw [e1] at hk
    simp at hk
theorem short_rev {ne : Nat} (hn : ne ≤ 12) {fs : List Nat} (hf : ∀ f ∈ fs, f < 2 ^ ne) (hfl : fs.length ≤ 8) {s : Nat} (hs : s < 2 ^ fs.length) (h : shortX fs s = true) : ∃ t, t < 2 ^ fs.length ∧ shortX fs.reverse t = true ∧ pc t 12 = pc s 12 := by
  obtain ⟨S, hS⟩ : ∃ S, cardsOf fs.length s = S := ⟨_, rfl⟩
  have hSn : S.Nodup := hS ▸ List.nodup_range.filter _
  have hSb : ∀ c ∈ S, c < fs.length := fun c hc => by
    rw [← hS] at hc
    exact List.mem_range.1 (List.mem_filter.1 hc).1
  obtain ⟨T, hT⟩ : ∃ T, S.map (fs.length - 1 - ·) = T := ⟨_, rfl⟩
  have hTb : ∀ c ∈ T, c < fs.length := fun c hc => by
    rw [← hT] at hc
    obtain ⟨a, ha, rfl⟩ := List.mem_map.1 hc
    have := hSb a ha
    omega
  have hTn : T.Nodup := by
    rw [← hT, List.nodup_iff_pairwise_ne, List.pairwise_map]
    refine hSn.imp_of_mem fun {a b} ha hb hab e => hab ?_
    have h1 := hSb a ha
    have h2 := hSb b hb
    omega
  have hlt := setL_lt hTb
  have hfr : ∀ f ∈ fs.reverse, f < 2 ^ ne := fun f hf' => hf f (List.mem_reverse.1 hf')
  have e1 : (cardsOf fs.length (setL T)).length = T.length := nd_len (List.nodup_range.filter _) hTn (cards_setL hTb)
  have e2 : T.length = S.length := by rw [← hT, List.length_map]
  have e3 : nb ne (fitN fs.reverse) (cardsOf fs.length (setL T)) = nb ne (fitN fs) S := by
    unfold nb
    refine List.countP_congr fun e _ => ?_
    simp only [List.any_eq_true]
    constructor
    · rintro ⟨c, h2, h3⟩
      have h4 := (cards_setL hTb c).1 h2
      rw [← hT] at h4
      obtain ⟨a, ha, rfl⟩ := List.mem_map.1 h4
      have h5 := hSb a ha
      refine ⟨a, ha, ?_⟩
      unfold fitN at h3 ⊢
      rw [rev_get (by omega), show fs.length - 1 - (fs.length - 1 - a) = a by omega] at h3
      exact h3
    · rintro ⟨a, ha, h3⟩
      have h5 := hSb a ha
      refine ⟨fs.length - 1 - a, (cards_setL hTb _).2 (by rw [← hT]; exact List.mem_map.2 ⟨a, ha, rfl⟩), ?_⟩
      unfold fitN at h3 ⊢
      rw [rev_get (by omega), show fs.length - 1 - (fs.length - 1 - a) = a by omega]
      exact h3
  have e4 : pc (setL T) 12 = pc s 12 := by
    rw [← cards_len (by omega) hlt, ← cards_len (by omega) hs, e1, e2, hS]
  refine ⟨setL T, hlt, ?_, e4⟩
  have h6 := nb_union hn hfr (setL T)
  rw [List.length_reverse, e3] at h6
  have h7 := nb_union hn hf s
  rw [hS] at h7
  unfold shortX at h ⊢
  have h8 := of_decide_eq_true h
  exact decide_eq_true (by omega)
theorem why_rev {ne : Nat} (hn : ne ≤ 12) {fs : List Nat} (hf : ∀ f ∈ fs, f < 2 ^ ne) (hfl : fs.length ≤ 8) {s e s' e' : Nat} (h : WhyIs fs s e) (h' : WhyIs fs.reverse s' e') : e = e' ∧ pc s 12 = pc s' 12 := by
  have hfr : ∀ f ∈ fs.reverse, f < 2 ^ ne := fun f hf' => hf f (List.mem_reverse.1 hf')
  have a1 : ∀ t, t < 2 ^ fs.length → shortX fs t = true → 0 < s' ∧ pc s' 12 ≤ pc t 12 := fun t ht hs => by
    obtain ⟨u, hu, h1, h2⟩ := short_rev hn hf hfl ht hs
    obtain ⟨h3, h4⟩ := h'.min u (by rw [List.length_reverse]; exact hu) h1
    exact ⟨h3, by omega⟩
  have a2 : ∀ t, t < 2 ^ fs.length → shortX fs.reverse t = true → 0 < s ∧ pc s 12 ≤ pc t 12 := fun t ht hs => by
    obtain ⟨u, hu, h1, h2⟩ := short_rev hn hfr (by rw [List.length_reverse]; exact hfl) (by rw [List.length_reverse]; exact ht) hs
    rw [List.reverse_reverse] at h1
    rw [List.length_reverse] at hu
    obtain ⟨h3, h4⟩ := h.min u hu h1
    exact ⟨h3, by omega⟩
  have hl := h.lt
  have hl' := h'.lt
  rw [List.length_reverse] at hl'
  rcases h.se with ⟨b1, b2⟩ | ⟨b1, b2, b3⟩
  · rcases h'.se with ⟨c1, c2⟩ | ⟨c1, c2, c3⟩
    · subst b1 c1; omega
    · have := (a2 s' hl' c3).1; omega
  · rcases h'.se with ⟨c1, c2⟩ | ⟨c1, c2, c3⟩
    · have := (a1 s hl b3).1; omega
    · have := (a1 s hl b3).2
      have := (a2 s' hl' c3).2
      omega
theorem card_rev (m : Mx) (hX : mixedX m = true) (c : Int) (hc : -9223372036854775808 ≤ c ∧ c ≤ 9223372036854775807) : FitsX m.rev (IntKind.i64.wrap ((m.cards.length : Int) - 1 - c)) = FitsX m c ∧ ∀ e, ShareX m.rev (IntKind.i64.wrap ((m.cards.length : Int) - 1 - c)) e = ShareX m c e := by
  have hl : m.rev.cards.length = m.cards.length := by simp [Mx.rev]
  have hfl : (fsX m).length = m.cards.length := by simp [fsX]
  have h8 : m.cards.length ≤ 8 := by
    unfold mixedX at hX
    simp only [Bool.and_eq_true, decide_eq_true_eq] at hX
    exact hX.1.1.1.2
  by_cases hin : 0 ≤ c ∧ c ≤ (m.cards.length : Int) - 1
  · obtain ⟨k, rfl⟩ : ∃ k : Nat, c = (k : Int) := ⟨c.toNat, by omega⟩
    have hk : k < m.cards.length := by omega
    have ew : IntKind.i64.wrap ((m.cards.length : Int) - 1 - (k : Int)) = ((m.cards.length - 1 - k : Nat) : Int) := by
      rw [show (m.cards.length : Int) - 1 - (k : Int) = ((m.cards.length - 1 - k : Nat) : Int) by omega]
      exact i64_inN (by omega)
    have c1 : cardX m (k : Int) = true := by unfold cardX within; simp; omega
    have c2 : cardX m.rev ((m.cards.length - 1 - k : Nat) : Int) = true := by unfold cardX within; rw [hl]; simp; omega
    rw [ew]
    constructor
    · unfold FitsX
      rw [mixed_rev, if_pos hX, if_pos hX, if_pos c1, if_pos c2, fs_rev]
      simp only [Int.toNat_natCast]
      rw [rev_get (by omega), hfl, show m.cards.length - 1 - (m.cards.length - 1 - k) = k by omega]
    · intro e
      unfold ShareX
      have he : entryX m.rev e = entryX m e := rfl
      rw [mixed_rev, if_pos hX, if_pos hX, c1, c2, he, fs_rev, ne_rev]
      simp only [Int.toNat_natCast]
      have := share_rev (ne := neX m) (fs := fsX m) (c := k) (by omega) e.toNat
      rw [hfl] at this
      rw [this]
  · have c1 : cardX m c = false := by unfold cardX within; simp; omega
    have c2 : cardX m.rev (IntKind.i64.wrap ((m.cards.length : Int) - 1 - c)) = false := by
      rw [IntKind.wrap_i64]
      unfold cardX within
      rw [hl]
      simp
      omega
    constructor
    · unfold FitsX
      rw [mixed_rev, c1, c2]
      rfl
    · intro e
      unfold ShareX
      rw [mixed_rev, c1, c2]
      rfl
end Go.Hp
/- Layer 10, plain: how ways are shared. -/
set_option linter.unusedSimpArgs false
set_option linter.unusedVariables false
namespace Go.Hp
open Go Go.Eng Go.Pw1 Go.Proofs.YtlhdalcipflblaaDoor
theorem share_at {m : MxA} (hX : mixedX m.pl = true) {k j : Nat} (hk : k < m.cards.length) (hj : j < (esX m).length) : ShareX m.pl (k : Int) (j : Int) = ((shareL (esX m).length (fsX m.pl) k j : Int), 0) := by
  have hc : cardX m.pl (k : Int) = true := by
    unfold cardX within
    rw [Bool.and_eq_true, decide_eq_true_eq, decide_eq_true_eq]
    show 0 ≤ (k : Int) ∧ (k : Int) ≤ (m.cards.length : Int) - 1
    omega
  have he : entryX m.pl (j : Int) = true := by
    unfold entryX within
    rw [Bool.and_eq_true, decide_eq_true_eq, decide_eq_true_eq, ne_eq]
    omega
  unfold ShareX
  rw [if_pos hX, hc, he]
  rfl
/-- What Sure and Lost return, in one piece. -/
structure SLIs (m : MxA) (E : Int) (S : List Int) (lo ca : Nat) : Prop where
  sure : SureX m.pl = (S, E)
  lost : LostX m.pl = (((lo : Int), (ca : Int)), E)
  lol : lo < 2 ^ (esX m).length
  cal : ca < 2 ^ (esX m).length
  ok : E = 0 → 0 < cntX m.pl ∧ S = (List.range m.cards.length).map (sureC m.pl) ∧ ∀ k, k < (esX m).length → lo.testBit k = decide (usedL (esX m).length (fsX m.pl) k = 0) ∧ ca.testBit k = decide (usedL (esX m).length (fsX m.pl) k < cntX m.pl)
  no : E ≠ 0 → E = 4 ∧ cntX m.pl = 0 ∧ S = [] ∧ lo = 0 ∧ ca = 0
theorem sl_is {m : MxA} (hX : mixedX m.pl = true) : ∃ E S lo ca, SLIs m E S lo ca := by
  by_cases h0 : cntX m.pl = 0
  · have hw : waysE m.pl = 4 := by unfold waysE; rw [if_pos hX, if_pos h0]
    refine ⟨4, [], 0, 0, by unfold SureX; rw [hw]; rfl, by unfold LostX; rw [hw]; rfl, Nat.two_pow_pos _, Nat.two_pow_pos _, fun h => by omega, fun _ => ⟨rfl, h0, rfl, rfl, rfl⟩⟩
  · have hw : waysE m.pl = 0 := by unfold waysE; rw [if_pos hX, if_neg h0]
    refine ⟨0, (List.range m.cards.length).map (sureC m.pl), lostX m.pl, canX m.pl, by unfold SureX; rw [if_pos hw]; rfl, by unfold LostX; rw [if_pos hw], setOf_lt _ _, setOf_lt _ _, fun _ => ⟨by omega, rfl, fun k hk => ⟨?_, ?_⟩⟩, fun h => absurd rfl h⟩
    · unfold lostX
      rw [setOf_bit, ne_eq, decide_eq_true hk, Bool.true_and]
    · unfold canX
      rw [setOf_bit, ne_eq, decide_eq_true hk, Bool.true_and]
def byN (ne : Nat) (fs : List Nat) (i j k : Nat) : Nat := ((List.range i).map fun c => shareL ne fs c k).sum + if k < j then shareL ne fs i k else 0
def byL (ne : Nat) (fs : List Nat) (i j : Nat) : List Int := (List.range ne).map fun k => (byN ne fs i j k : Int)
theorem byL_len (ne : Nat) (fs : List Nat) (i j : Nat) : (byL ne fs i j).length = ne := by simp [byL]
theorem by_start (ne : Nat) (fs : List Nat) : (intsW (byL ne fs 0 0)).flatten = List.replicate ne (.int .i64 0) := by
  refine List.eq_replicate_iff.2 ⟨by rw [ints_fl, byL_len, Nat.mul_one], fun v hv => ?_⟩
  obtain ⟨r, hr, hv⟩ := List.mem_flatten.1 hv
  obtain ⟨x, hx, rfl⟩ := List.mem_map.1 hr
  obtain ⟨k, _, rfl⟩ := List.mem_map.1 hx
  rw [List.mem_singleton.1 hv]
  simp [byN]
theorem by_next (ne : Nat) (fs : List Nat) (i : Nat) : byL ne fs i ne = byL ne fs (i + 1) 0 := by
  unfold byL
  refine List.map_congr_left fun k hk => ?_
  have := List.mem_range.1 hk
  unfold byN
  rw [if_pos this, if_neg (by omega), List.range_succ, List.map_append, List.sum_append]
  simp
theorem by_set {ne : Nat} {fs : List Nat} {i j : Nat} (hj : j < ne) : (byL ne fs i j).set j ((byN ne fs i j j + shareL ne fs i j : Nat) : Int) = byL ne fs i (j + 1) := by
  refine List.ext_getElem (by simp [byL]) fun k h1 h2 => ?_
  have hk : k < ne := by simpa [byL] using h2
  rw [List.getElem_set]
  unfold byL byN
  simp only [List.getElem_map, List.getElem_range]
  by_cases e : j = k
  · subst e
    have h3 : ¬ j < j := by omega
    have h4 : j < j + 1 := by omega
    simp [h3, h4]
  · rw [if_neg e]
    have h3 : (k < j + 1) ↔ k < j := by omega
    simp [h3]
theorem by_at {ne : Nat} {fs : List Nat} {i j k : Nat} (hk : k < ne) : (byL ne fs i j)[k]'(by rw [byL_len]; exact hk) = (byN ne fs i j k : Int) := by simp [byL]
theorem by_used (ne : Nat) (fs : List Nat) (k : Nat) : byN ne fs fs.length 0 k = usedL ne fs k := by
  unfold byN usedL
  rw [if_neg (by omega), Nat.add_zero]
theorem paste_setI {l : List Int} {j : Nat} {v : Int} (hj : j < l.length) : paste (intsW l).flatten j [.int .i64 v] = some (intsW (l.set j v)).flatten := by
  have := paste_row (f := fun (x : Int) => [Value.int .i64 x]) (sz := 1) (fun _ => rfl) (a' := v) (j := 0) (vs := [.int .i64 v]) (t := []) (l := l) (i := j) hj rfl
  simpa [intsW] using this
theorem sum_range_succ (f : Nat → Nat) (j : Nat) : ((List.range (j + 1)).map f).sum = ((List.range j).map f).sum + f j := by
  rw [List.range_succ, List.map_append, List.sum_append]
  simp
theorem sum_range_le {f : Nat → Nat} {b : Nat} (h : ∀ k, f k ≤ b) : ∀ j, ((List.range j).map f).sum ≤ j * b
  | 0 => by simp
  | j + 1 => by
    have h1 := sum_range_le h j
    have h2 := h j
    rw [sum_range_succ, Nat.add_mul]
    omega
theorem byN_le {ne : Nat} {fs : List Nat} {i : Nat} (hi : i < fs.length) (j k : Nat) : byN ne fs i j k ≤ (i + 1) * cntL ne fs 0 := by
  unfold byN
  have h1 : ∀ i, i ≤ fs.length → ((List.range i).map fun c => shareL ne fs c k).sum ≤ i * cntL ne fs 0 := by
    intro i
    induction i with
    | zero => intro _; simp
    | succ i ih =>
      intro hi
      have h2 := ih (by omega)
      have h3 := share_le (ne := ne) (fs := fs) (c := i) (by omega) k
      rw [sum_range_succ, Nat.add_mul]
      omega
  have h2 := h1 i (by omega)
  have h3 := share_le (ne := ne) (fs := fs) (c := i) hi k
  rw [Nat.add_mul]
  split <;> omega
theorem share_fin {E : Int} {n u : Nat} {b1 b2 : Bool} (h1 : u ≤ n) (h : E = 0 → b1 = decide (u = 0) ∧ b2 = decide (u < n)) : ¬ (decide ((n : Int) < (u : Int)) || decide (E = 0) && (!(b1 == decide ((u : Int) = 0)) || !(b2 == decide ((u : Int) < (n : Int))))) = true := by
  have e0 : decide ((n : Int) < (u : Int)) = false := decide_eq_false (by omega)
  have e1 : decide ((u : Int) = 0) = decide (u = 0) := decide_eq_decide.2 (by omega)
  have e2 : decide ((u : Int) < (n : Int)) = decide (u < n) := decide_eq_decide.2 (by omega)
  rw [e0, e1, e2]
  by_cases hE : E = 0
  · obtain ⟨h2, h3⟩ := h hE
    rw [h2, h3]
    simp
  · simp [hE]
end Go.Hp
/- The facts on the tables of types and on the entries of functions that the walks use. Written by program. -/
set_option linter.unusedSimpArgs false
set_option linter.unusedVariables false
namespace Go.Proofs.YtlhdalcipflblaaDoor
open Go Go.Eng
theorem ent_52 : Enters Tryd.prog 52 := enters_of Tryd.func52 (by kernel_rfl) rfl
theorem ty_34 : tyB Tryd.prog 34 = some (false, 1) := by kernel_rfl
end Go.Proofs.YtlhdalcipflblaaDoor
/- Walks of the reference of layer 10: Ways, Count, Share. -/
set_option linter.unusedSimpArgs false
set_option linter.unusedVariables false
namespace Go.Hp
open Go Go.Eng Go.Pw1 Go.Proofs.YtlhdalcipflblaaDoor
theorem ways_bd {ne : Nat} {fs : List Nat} (h1 : ne ≤ 12) (h2 : fs.length ≤ 4) (u : Nat) : (waysL ne fs u).length ≤ 20736 := by
  rw [← cnt_ways]
  refine Nat.le_trans (cnt_le ne fs u) ?_
  refine Nat.le_trans (Nat.pow_le_pow_left h1 _) ?_
  exact Nat.le_trans (Nat.pow_le_pow_right (by decide) h2) (by decide)
theorem w_row (LL : List WB) : ∀ x ∈ LL.reverse.map WB.cells, x.length = 1 := fun x hx => by obtain ⟨B, _, rfl⟩ := List.mem_map.1 hx; rfl
theorem wR_mem {B : WB} {LL : List WB} (h : B ∈ LL) {b : Nat} {o : Obj} (hb : (b, o) ∈ ownB 3 B.x (intsW (natI B.l)).flatten) : (b, o) ∈ wR LL := List.mem_flatten.2 ⟨_, List.mem_map.2 ⟨B, h, rfl⟩, hb⟩
open Classical in
theorem wR_cnt {B : WB} {LL : List WB} (h : B ∈ LL) (x : Nat × Obj) : (ownB 3 B.x (intsW (natI B.l)).flatten).count x ≤ (wR LL).count x := by
  obtain ⟨s, t, rfl⟩ := List.append_of_mem h
  unfold wR
  rw [List.map_append, List.map_cons, List.flatten_append, List.flatten_cons, List.count_append, List.count_append]
  omega
theorem GoodO.at {y : Eng.Own × List WB} {base : List (List Nat)} (h : GoodO y base) {k : Nat} (hk : k < base.length) : ∃ B, B ∈ y.2 ∧ ∃ hk2 : k < y.2.reverse.length, y.2.reverse[k] = B ∧ B.l = base[k] := by
  have hk2 : k < y.2.reverse.length := by rw [List.length_reverse, h.len]; exact hk
  refine ⟨y.2.reverse[k], List.mem_reverse.1 (List.getElem_mem hk2), hk2, rfl, ?_⟩
  have := h.ls
  subst this
  rw [List.getElem_map]
theorem take_cnt {α : Type} (p : α → Bool) {L : List α} {k : Nat} (hk : k < L.length) {w : α} (hw : L[k] = w) : (L.take (k + 1)).countP p = (L.take k).countP p + if p w then 1 else 0 := by
  rw [List.take_succ_eq_append_getElem hk, List.countP_append, List.countP_singleton, hw]
theorem getD_in {l : List Nat} {c y d : Nat} (hc : c < l.length) (hy : l[c] = y) : l.getD c d = y := by simp [List.getD_eq_getElem?_getD, hc, hy]
theorem waysO_len {m : MxA} : ∀ l ∈ waysL (esX m).length (fsX m.pl) 0, l.length = m.cards.length := fun l hl => by rw [(ways_mem.1 hl).len, fs_len]
abbrev WO (base : List (List Nat)) := { y : Eng.Own × List WB // GoodO y base }
end Go.Hp
namespace Go.Proofs.YtlhdalcipflblaaDoor
open Go Go.Eng Go.Hp Go.Pw1

theorem rEntries0_calls (m : MxA) (hsm : MSm m) (hbx : m.bxs.length ≤ 12) (hti : ∀ B ∈ m.bxs, B.bx.titles.length ≤ 30) (W : World) (hM : MOk W m) : Calls Tryd.prog 34 #[m.v] W
    (News (fun z : EO m => .slice (ownQ z.1) (esX m).length (ownC z.1)) (fun _ => []) W) := by
  refine calls_start Tryd.func34 rfl rfl ?_
  refine RunC.seq ?_
  refine RunC.region ?_
  refine RunL.new (New.box rfl) rfl rfl rfl (fun b1 => ?_)
  refine RunL.val (Val.pure rfl) rfl rfl rfl ?_
  refine RunL.nil ?_
  refine RunE.next ?_
  refine RunC.seq ?_
  refine RunC.region ?_
  refine RunL.val (Val.pure rfl) rfl rfl rfl ?_
  refine RunL.nil ?_
  refine RunE.next ?_
  refine RunC.seq ?_
  refine RunC.seq ?_
  refine RunC.region ?_
  refine RunL.val (Val.pure rfl) rfl rfl rfl ?_
  refine RunL.nil ?_
  refine RunE.next ?_
  refine RunC.block ?_
  refine RunC.loopX (X := Eng.Own) (n0 := [(b1, _)]) (m.bxs.length) (fun k x q => (4, .int .i64 (k : Int)) :: (3, ownV x (enK m k).length) :: q) (fun _ _ => _) (fun k x => []) (fun k x => ownB 56 x ((enK m k).map En.cells).flatten ++ []) (fun k x => OwnOk 3 x (enK m k).length ((enK m k).map En.cells).flatten) none OwnOk.start rfl (Sub.consE (t := 4) rfl rfl (Sub.consE (t := 3) rfl rfl (Sub.cons (t := 1) rfl (Sub.nil _)))) (.cons .here rfl (Pick.same rfl)) ?_
  intro k x kN kI
  have hx1 := kI
  refine RunC.seq ?_
  refine RunC.seq ?_
  refine RunC.region ?_
  refine RunL.val (Val.pure rfl) rfl rfl rfl ?_
  refine RunL.val (Val.fieldAddr rfl fld_25_0) rfl rfl rfl ?_
  refine RunL.val (Val.load_one rfl (.head _) ty_22 rfl) rfl rfl rfl ?_
  refine RunL.val (Val.len_sl rfl sl_22) rfl rfl rfl ?_
  refine RunL.val (Val.pure rfl) rfl rfl rfl ?_
  refine RunL.nil ?_
  refine RunE.next ?_
  refine RunC.cond rfl ?_ ?_
  · intro c0
    have c0' := c0; clear c0
    try simp only [decide_eq_true_eq, decide_eq_false_iff_not, Bool.not_eq_true', Bool.not_eq_false', Bool.and_eq_true, Bool.or_eq_true, Bool.and_eq_false_iff, Bool.or_eq_false_iff, Int.not_le, Int.not_lt] at c0'
    have hk : k < m.bxs.length := by omega
    obtain ⟨B, hB⟩ : ∃ B, m.bxs[k] = B := ⟨_, rfl⟩
    have hBm : B ∈ m.bxs := hB ▸ List.getElem_mem hk
    have hBl := hti B hBm
    have hBT := hM.ti B hBm
    refine RunC.skip ?_
    refine RunE.next ?_
    refine RunC.seq ?_
    refine RunC.block ?_
    refine RunC.seq ?_
    refine RunC.region ?_
    refine RunL.val (Val.pure rfl) rfl rfl rfl ?_
    refine RunL.nil ?_
    refine RunE.next ?_
    refine RunC.block ?_
    refine RunC.loopX (X := Eng.Own) (n0 := [(b1, _)]) (B.bx.titles.length) (fun j y q => (5, .int .i64 (j : Int)) :: (3, ownV y (enK m k ++ boxEn B.bx.colour 0 (B.bx.titles.take j)).length) :: q) (fun _ _ => _) (fun j y => []) (fun j y => ownB 56 y ((enK m k ++ boxEn B.bx.colour 0 (B.bx.titles.take j)).map En.cells).flatten ++ []) (fun j y => OwnOk 3 y (enK m k ++ boxEn B.bx.colour 0 (B.bx.titles.take j)).length ((enK m k ++ boxEn B.bx.colour 0 (B.bx.titles.take j)).map En.cells).flatten) x (by simpa [boxEn] using hx1) rfl (Sub.consE (t := 5) rfl rfl (Sub.consE (t := 3) rfl (by simp [boxEn]) (Sub.cons (t := 1) rfl (Sub.cons (t := 4) rfl (Sub.nil _))))) (.cons .here rfl (Pick.same (by simp [boxEn]))) ?_
    intro j y jN jI
    have hy1 := jI
    refine RunC.seq ?_
    refine RunC.seq ?_
    refine RunC.region ?_
    refine RunL.val (Val.pure rfl) rfl rfl rfl ?_
    refine RunL.val (Val.fieldAddr rfl fld_25_0) rfl rfl rfl ?_
    refine RunL.val (Val.load_one rfl (.head _) ty_22 rfl) rfl rfl rfl ?_
    refine RunL.val (Val.pure rfl) rfl rfl rfl ?_
    refine RunL.val (Val.indexAddr_slp rfl rfl sl_22 (by omega) (by omega) (hM.bx.ptrM hk)) rfl rfl rfl ?_
    refine RunL.val (Val.fieldAddr rfl fld_46_1) rfl rfl rfl ?_
    refine RunL.val (Val.load_gen rfl (fun w hm => hM.bx.cellX hm (by simp) ty_44 hk hB (j := 1) (by decide) rfl)) rfl rfl rfl ?_
    refine RunL.val (Val.len_sl rfl sl_44) rfl rfl rfl ?_
    refine RunL.val (Val.pure rfl) rfl rfl rfl ?_
    refine RunL.nil ?_
    refine RunE.next ?_
    refine RunC.cond rfl ?_ ?_
    · intro c1
      have c1' := c1; clear c1
      try simp only [decide_eq_true_eq, decide_eq_false_iff_not, Bool.not_eq_true', Bool.not_eq_false', Bool.and_eq_true, Bool.or_eq_true, Bool.and_eq_false_iff, Bool.or_eq_false_iff, Int.not_le, Int.not_lt] at c1'
      have hj : j < B.bx.titles.length := by omega
      obtain ⟨S, hS⟩ : ∃ S, B.bx.titles[j] = S := ⟨_, rfl⟩
      have hlen : (enK m k ++ boxEn B.bx.colour 0 (B.bx.titles.take j)).length ≤ 100000 := by (rw [List.length_append, boxEn_len]; have h9 := enK_len hsm k; rw [List.length_take]; omega)
      have hS2 : enK m k ++ boxEn B.bx.colour 0 (B.bx.titles.take (j + 1)) = (enK m k ++ boxEn B.bx.colour 0 (B.bx.titles.take j)) ++ [⟨B.bx.colour, itoa (j + 1), S⟩] := by rw [List.take_succ_eq_append_getElem hj, hS, boxEn_snoc, List.append_assoc]; simp [Nat.min_eq_left (Nat.le_of_lt hj)]
      have hlen2 : (enK m k ++ boxEn B.bx.colour 0 (B.bx.titles.take j) ++ [(⟨B.bx.colour, itoa (j + 1), S⟩ : En)]).length = (enK m k ++ boxEn B.bx.colour 0 (B.bx.titles.take j)).length + 1 := by rw [List.length_append (bs := [_])]; rfl
      refine RunC.skip ?_
      refine RunE.next ?_
      refine RunC.seq ?_
      refine RunC.block ?_
      refine RunC.drawX (X := Eng.Own) 21 (n0 := [(b1, _)]) (fun z q => (3, ownV z (enK m k ++ boxEn B.bx.colour 0 (B.bx.titles.take j) ++ [(⟨B.bx.colour, itoa (j + 1), S⟩ : En)]).length) :: q) (fun z => []) (fun z => []) (fun z => ownB 56 z ((enK m k ++ boxEn B.bx.colour 0 (B.bx.titles.take j) ++ [(⟨B.bx.colour, itoa (j + 1), S⟩ : En)]).map En.cells).flatten ++ []) (fun z => OwnOk 3 z (enK m k ++ boxEn B.bx.colour 0 (B.bx.titles.take j) ++ [(⟨B.bx.colour, itoa (j + 1), S⟩ : En)]).length ((enK m k ++ boxEn B.bx.colour 0 (B.bx.titles.take j) ++ [(⟨B.bx.colour, itoa (j + 1), S⟩ : En)]).map En.cells).flatten) fol_ (.cons .here rfl .nil) (Sub.cons (t := 1) rfl (Sub.cons (t := 4) rfl (Sub.cons (t := 5) rfl (Sub.nil _)))) (.cons .here rfl .nil) ?_ ?_
      · refine RunA.val (i := 0) rfl (by kernel_rfl) (by kernel_rfl) (Val.pure rfl) rfl rfl rfl (fun _ _ _ h => h) (.cons .here rfl .nil) rfl ?_
        refine RunA.val (i := 1) rfl (by kernel_rfl) (by kernel_rfl) (Val.fieldAddr rfl fld_25_0) rfl rfl rfl (fun _ _ _ h => h) (.cons .here rfl .nil) rfl ?_
        refine RunA.val (i := 2) rfl (by kernel_rfl) (by kernel_rfl) (Val.load_one rfl (.head _) ty_22 rfl) rfl rfl rfl (fun _ _ _ h => h) (.cons .here rfl .nil) rfl ?_
        refine RunA.val (i := 3) rfl (by kernel_rfl) (by kernel_rfl) (Val.pure rfl) rfl rfl rfl (fun _ _ _ h => h) (.cons .here rfl .nil) rfl ?_
        refine RunA.val (i := 4) rfl (by kernel_rfl) (by kernel_rfl) (Val.indexAddr_slp rfl rfl sl_22 (by omega) (by omega) (hM.bx.ptrM hk)) rfl rfl rfl (fun _ _ _ h => h) (.cons .here rfl .nil) rfl ?_
        refine RunA.val (i := 5) rfl (by kernel_rfl) (by kernel_rfl) (Val.fieldAddr rfl fld_46_0) rfl rfl rfl (fun _ _ _ h => h) (.cons .here rfl .nil) rfl ?_
        refine RunA.val (i := 6) rfl (by kernel_rfl) (by kernel_rfl) (Val.load_gen rfl (fun w hm => hM.bx.cellX hm (by simp) ty_3 hk hB (j := 0) (by decide) rfl)) rfl rfl rfl (fun _ _ _ h => h) (.cons .here rfl .nil) rfl ?_
        refine RunA.val (i := 7) rfl (by kernel_rfl) (by kernel_rfl) (Val.pure rfl) rfl rfl rfl (fun _ _ _ h => h) (.cons .here rfl .nil) rfl ?_
        refine RunA.val (i := 8) rfl (by kernel_rfl) (by kernel_rfl) (Val.add rfl rfl (IntWalk.i64_in _ ⟨by omega, by omega⟩)) rfl rfl rfl (fun _ _ _ h => h) (.cons .here rfl .nil) rfl ?_
        refine RunA.val (i := 10) rfl (by kernel_rfl) (by kernel_rfl) (Val.fieldAddr rfl fld_25_0) rfl rfl rfl (fun _ _ _ h => h) (.cons .here rfl .nil) rfl ?_
        refine RunA.val (i := 11) rfl (by kernel_rfl) (by kernel_rfl) (Val.load_one rfl (.head _) ty_22 rfl) rfl rfl rfl (fun _ _ _ h => h) (.cons .here rfl .nil) rfl ?_
        refine RunA.val (i := 12) rfl (by kernel_rfl) (by kernel_rfl) (Val.pure rfl) rfl rfl rfl (fun _ _ _ h => h) (.cons .here rfl .nil) rfl ?_
        refine RunA.val (i := 13) rfl (by kernel_rfl) (by kernel_rfl) (Val.indexAddr_slp rfl rfl sl_22 (by omega) (by omega) (hM.bx.ptrM hk)) rfl rfl rfl (fun _ _ _ h => h) (.cons .here rfl .nil) rfl ?_
        refine RunA.val (i := 14) rfl (by kernel_rfl) (by kernel_rfl) (Val.fieldAddr rfl fld_46_1) rfl rfl rfl (fun _ _ _ h => h) (.cons .here rfl .nil) rfl ?_
        refine RunA.val (i := 15) rfl (by kernel_rfl) (by kernel_rfl) (Val.load_gen rfl (fun w hm => hM.bx.cellX hm (by simp) ty_44 hk hB (j := 1) (by decide) rfl)) rfl rfl rfl (fun _ _ _ h => h) (.cons .here rfl .nil) rfl ?_
        refine RunA.val (i := 16) rfl (by kernel_rfl) (by kernel_rfl) (Val.pure rfl) rfl rfl rfl (fun _ _ _ h => h) (.cons .here rfl .nil) rfl ?_
        refine RunA.val (i := 17) rfl (by kernel_rfl) (by kernel_rfl) (Val.indexAddr_slp rfl rfl sl_44 (by omega) (by omega) (hBT.ptrM hj)) rfl rfl rfl (fun _ _ _ h => h) (.cons .here rfl .nil) rfl ?_
        refine RunA.val (i := 18) rfl (by kernel_rfl) (by kernel_rfl) (Val.load_gen rfl (fun w hm => Sl.loadM1 hBT (by decide) hm (by simp) ty_9 hj (v := .string (bs S)) (by simp [hS]))) rfl rfl rfl (fun _ _ _ h => h) (.cons .here rfl .nil) rfl ?_
        refine RunA.one (i := 9) (by kernel_rfl) (by kernel_rfl) ?_
        refine RunI.callP rfl (isCall_func rfl ent_31) rfl rfl rfl (fun w hm => rText_calls (j + 1) (by omega) w) (RunK.toA (.cons .here rfl .nil) (.cons .here rfl .nil) rfl ?_)
        refine RunA.val (i := 19) rfl (by kernel_rfl) (by kernel_rfl) (Val.build (parts := [(0, .tmp 30), (1, .tmp 33), (2, .tmp 42)]) rfl zero_56 places_56 rfl) rfl rfl rfl (fun _ _ _ h => h) (.cons .here rfl .nil) rfl ?_
        refine RunA.one (i := 20) (by kernel_rfl) (by kernel_rfl) ?_
        refine RunI.new rfl (New.buildSlice (parts := [(0, .tmp 43)]) rfl sl_53 zero_56 rfl rfl rfl rfl) rfl rfl rfl (fun b44 => (RunK.toA (.cons .here rfl (.cons .here rfl .nil)) (.cons (.there .here) rfl .nil) rfl ?_))
        refine RunA.toB (by kernel_rfl) ?_
        refine RunB.one (i := 21) (by kernel_rfl) ?_
        refine RunI.append (A := [(b44, _), (b1, _)]) (B := _) (x := y) (ys := (En.cells ⟨B.bx.colour, itoa (j + 1), S⟩)) rfl ap_53 rfl rfl rfl hy1 rfl (fun h => by cases h) (fun w hm => src_blk (hm.at (.head _))) (one_of (en_one _)) (by simp only [maxLen]; omega) (by omega) rfl (fun z45 hz45 => (RunK.toB ?_))
        refine RunB.one (i := 22) (by kernel_rfl) ?_
        refine RunI.val rfl (Val.pure rfl) rfl rfl rfl (RunK.toB ?_)
        refine RunB.done (by kernel_rfl) ?_
        exact RunE.joinX z45 (by rw [← flat_snoc, hlen2]; exact hz45) rfl (Sub.consE (t := 3) rfl (by rw [hlen2]) (Sub.cons (t := 1) rfl (Sub.cons (t := 4) rfl (Sub.cons (t := 5) rfl (Sub.nil _))))) (.cons (.there .here) rfl (Pick.skip (Pick.same (by rw [← flat_snoc]))))
      · intro z zI
        have hx1 := zI
        refine RunE.block_normal ?_
        refine RunE.next ?_
        refine RunC.region ?_
        refine RunL.val (Val.pure rfl) rfl rfl rfl ?_
        refine RunL.val (Val.add rfl rfl (IntWalk.i64_in _ ⟨by omega, by omega⟩)) rfl rfl rfl ?_
        refine RunL.val (Val.pure rfl) rfl rfl rfl ?_
        refine RunL.nil ?_
        exact RunE.roundX z (by omega) (by rw [hS2]; exact hx1) rfl (Sub.consE (t := 5) rfl rfl (Sub.consE (t := 3) rfl (by rw [hS2]) (Sub.cons (t := 1) rfl (Sub.cons (t := 4) rfl (Sub.nil _))))) (.cons .here rfl (Pick.same (by rw [hS2])))
    · intro c1
      have c1' := c1; clear c1
      try simp only [decide_eq_true_eq, decide_eq_false_iff_not, Bool.not_eq_true', Bool.not_eq_false', Bool.and_eq_true, Bool.or_eq_true, Bool.and_eq_false_iff, Bool.or_eq_false_iff, Int.not_le, Int.not_lt] at c1'
      obtain rfl : j = B.bx.titles.length := by omega
      rw [List.take_length] at hy1
      simp only [List.take_length]
      refine RunC.exit ?_
      refine RunE.pass_exit ?_
      refine RunE.pass_exit ?_
      refine RunE.block_here ?_
      refine RunE.block_normal ?_
      refine RunE.next ?_
      refine RunC.region ?_
      refine RunL.val (Val.pure rfl) rfl rfl rfl ?_
      refine RunL.val (Val.add rfl rfl (IntWalk.i64_in _ ⟨by omega, by omega⟩)) rfl rfl rfl ?_
      refine RunL.val (Val.pure rfl) rfl rfl rfl ?_
      refine RunL.nil ?_
      exact RunE.roundX y (by omega) (by rw [enK_snoc hk hB]; exact hy1) rfl (Sub.consE (t := 4) rfl rfl (Sub.consE (t := 3) rfl (by rw [enK_snoc hk hB]) (Sub.cons (t := 1) rfl (Sub.nil _)))) (.cons .here rfl (Pick.same (by rw [enK_snoc hk hB])))
  · intro c0
    have c0' := c0; clear c0
    try simp only [decide_eq_true_eq, decide_eq_false_iff_not, Bool.not_eq_true', Bool.not_eq_false', Bool.and_eq_true, Bool.or_eq_true, Bool.and_eq_false_iff, Bool.or_eq_false_iff, Int.not_le, Int.not_lt] at c0'
    obtain rfl : k = m.bxs.length := by omega
    rw [enK_all] at hx1
    have y1 : ownV x (esX m).length = .slice (ownQ x) (esX m).length (ownC x) := ownV_slice hx1
    simp only [enK_all, y1]
    refine RunC.exit ?_
    refine RunE.pass_exit ?_
    refine RunE.pass_exit ?_
    refine RunE.block_here ?_
    refine RunE.next ?_
    refine RunC.seq ?_
    refine RunC.region ?_
    refine RunL.val (Val.pure rfl) rfl rfl rfl ?_
    refine RunL.val (Val.pure rfl) rfl rfl rfl ?_
    refine RunL.nil ?_
    refine RunE.next ?_
    refine RunC.ret ?_
    exact RunE.ret (chg := []) (.r1 rfl (.tmp rfl)) (fun _ hm => ⟨⟨x, hx1⟩, rfl, hm.pick .nil⟩)
theorem rways0_calls (m : MxA) (hsm : MSm m) (hX : mixedX m.pl = true) (hc4 : m.cards.length ≤ 4) (W : World) (hM : MOk W m) : Calls Tryd.prog 69 #[m.v, .slice none 0 0, .slice none 0 0] W
    (News (fun z : WO (waysL (esX m).length (fsX m.pl) 0) => .slice (ownQ z.1.1) z.1.2.length (ownC z.1.1)) (fun z => ownB 34 z.1.1 (wRows z.1.2) ++ (wR z.1.2 ++ [])) W) := by
  obtain ⟨h4, h8, h12⟩ := mixed_ok hX
  have hb := ways_bd h12 (show (fsX m.pl).length ≤ 4 by rw [fs_len]; exact hc4) 0
  have h1 := rways_calls m hsm hX W hM m.cards.length [] 0 (by simp) (fun x => by simp) none none [] [] [] W (Mem.refl W) ⟨OwnOk.start, fun B hB => (by cases hB), rfl⟩ OwnOk.start (by rw [waysB_nil]; simp; omega)
  rw [waysB_nil, List.nil_append] at h1
  refine calls_mono h1 ?_
  rintro ed w' ⟨y, hy, rfl, hm⟩
  exact ⟨⟨y, hy⟩, by show Ending.returned (ownV y.1 y.2.length) = _; rw [ownV_slice hy.ok], hm⟩
theorem rWays_calls (m : MxA) (hsm : MSm m) (hX : mixedX m.pl = true) (hc4 : m.cards.length ≤ 4) (base : List (List Nat)) (hb : waysL (esX m).length (fsX m.pl) 0 = base) (W : World) (hM : MOk W m) : Calls Tryd.prog 52 #[m.v] W
    (News (fun z : WO base => .slice (ownQ z.1.1) z.1.2.length (ownC z.1.1)) (fun z => ownB 34 z.1.1 (wRows z.1.2) ++ (wR z.1.2 ++ [])) W) := by
  subst hb
  refine calls_start Tryd.func52 rfl rfl ?_
  refine RunC.seq ?_
  refine RunC.region ?_
  refine RunL.new (New.box rfl) rfl rfl rfl (fun b1 => ?_)
  refine RunL.val (Val.pure rfl) rfl rfl rfl ?_
  refine RunL.nil ?_
  refine RunE.next ?_
  refine RunC.seq ?_
  refine RunC.region ?_
  refine RunL.val (Val.load_agg rfl (.head _) ty_25 rfl) rfl rfl rfl ?_
  refine RunL.callNT (isCall_func rfl ent_69) rfl rfl rfl (fun w hm => rways0_calls m hsm hX hc4 w (hM.mono0 hm)) (fun z4 => ?_)
  obtain ⟨⟨x4, L4⟩, hG4⟩ := z4
  dsimp only
  refine RunL.val (Val.pure rfl) rfl rfl rfl ?_
  refine RunL.nil ?_
  refine RunE.next ?_
  refine RunC.ret ?_
  exact RunE.ret (chg := []) (.r1 rfl (.tmp rfl)) (fun _ hm => ⟨⟨(x4, L4), hG4⟩, rfl, hm.pick (Pick.skip (Pick.refl _))⟩)
theorem rCount_calls (m : MxA) (hsm : MSm m) (hc4 : mixedX m.pl = true → m.cards.length ≤ 4) (W : World) (hM : MOk W m) : Calls Tryd.prog 20 #[m.v] W (Pure (.tuple #[.int .i64 (CountX m.pl).1, .int .i64 (CountX m.pl).2]) W) := by
  cases hX : mixedX m.pl with
  | false =>
    have e : CountX m.pl = (0, 1) := by unfold CountX; rw [hX]; rfl
    rw [e]
    refine calls_start Tryd.func20 rfl rfl ?_
    refine RunC.seq ?_
    refine RunC.region ?_
    refine RunL.new (New.box rfl) rfl rfl rfl (fun b1 => ?_)
    refine RunL.val (Val.pure rfl) rfl rfl rfl ?_
    refine RunL.val (Val.pure rfl) rfl rfl rfl ?_
    refine RunL.nil ?_
    refine RunE.next ?_
    refine RunC.seq ?_
    refine RunC.region ?_
    refine RunL.val (Val.load_agg rfl (.head _) ty_25 rfl) rfl rfl rfl ?_
    refine RunL.callP (isCall_func rfl ent_41) rfl rfl rfl (fun w hm => (by have h9 := rcheck_calls m hsm true w (hM.mono0 hm); rw [hX] at h9; exact h9)) ?_
    refine RunL.val (Val.pure rfl) rfl rfl rfl ?_
    refine RunL.nil ?_
    refine RunE.next ?_
    refine RunC.seq ?_
    refine RunC.seq ?_
    refine RunC.region ?_
    refine RunL.val (Val.pure rfl) rfl rfl rfl ?_
    refine RunL.val (Val.pure rfl) rfl rfl rfl ?_
    refine RunL.nil ?_
    refine RunE.next ?_
    refine RunC.cond rfl ?_ (fun h => absurd h (by simp))
    intro c0
    clear c0
    refine RunC.seq ?_
    refine RunC.region ?_
    iterate 3 refine RunL.val (Val.pure rfl) rfl rfl rfl ?_
    refine RunL.nil ?_
    refine RunE.next ?_
    refine RunC.ret ?_
    refine RunE.pass_ret ?_
    exact RunE.retP (.r2 rfl (.tmp rfl) (.tmp rfl)) (by simp)
  | true =>
    have e : CountX m.pl = ((cntX m.pl : Int), 0) := by unfold CountX; rw [hX]; rfl
    rw [e]
    have hcn : cntX m.pl = (waysL (esX m).length (fsX m.pl) 0).length := cnt_ways _ _ _
    refine calls_start Tryd.func20 rfl rfl ?_
    refine RunC.seq ?_
    refine RunC.region ?_
    refine RunL.new (New.box rfl) rfl rfl rfl (fun b1 => ?_)
    refine RunL.val (Val.pure rfl) rfl rfl rfl ?_
    refine RunL.val (Val.pure rfl) rfl rfl rfl ?_
    refine RunL.nil ?_
    refine RunE.next ?_
    refine RunC.seq ?_
    refine RunC.region ?_
    refine RunL.val (Val.load_agg rfl (.head _) ty_25 rfl) rfl rfl rfl ?_
    refine RunL.callP (isCall_func rfl ent_41) rfl rfl rfl (fun w hm => (by have h9 := rcheck_calls m hsm true w (hM.mono0 hm); rw [hX] at h9; exact h9)) ?_
    refine RunL.val (Val.pure rfl) rfl rfl rfl ?_
    refine RunL.nil ?_
    refine RunE.next ?_
    refine RunC.seq ?_
    refine RunC.seq ?_
    refine RunC.region ?_
    refine RunL.val (Val.pure rfl) rfl rfl rfl ?_
    refine RunL.val (Val.pure rfl) rfl rfl rfl ?_
    refine RunL.nil ?_
    refine RunE.next ?_
    refine RunC.cond rfl (fun h => absurd h (by simp)) ?_
    intro c0
    clear c0
    refine RunC.skip ?_
    refine RunE.next ?_
    refine RunC.seq ?_
    refine RunC.region ?_
    refine RunL.val (Val.load_agg rfl (.head _) ty_25 rfl) rfl rfl rfl ?_
    refine RunL.callNT (isCall_func rfl ent_52) rfl rfl rfl (fun w hm => rWays_calls m hsm hX (hc4 hX) _ rfl w (hM.mono0 hm)) (fun z11 => ?_)
    obtain ⟨⟨x11, L11⟩, hG11⟩ := z11
    have hlen := hG11.len
    dsimp only at hlen ⊢
    refine RunL.val (Val.len_sl rfl sl_86) rfl rfl rfl ?_
    refine RunL.val (Val.pure rfl) rfl rfl rfl ?_
    refine RunL.val (Val.pure rfl) rfl rfl rfl ?_
    refine RunL.nil ?_
    refine RunE.next ?_
    refine RunC.ret ?_
    exact RunE.retP (.r2 rfl (.tmp rfl) (.tmp rfl)) (by rw [hcn, hlen])
theorem rShare_calls (m : MxA) (hsm : MSm m) (hb : m.cards.length ≤ 20) (hbx : m.bxs.length ≤ 12) (hti : ∀ B ∈ m.bxs, B.bx.titles.length ≤ 30) (hc4 : mixedX m.pl = true → m.cards.length ≤ 4) (c e : Int) (W : World) (hM : MOk W m) : Calls Tryd.prog 22 #[m.v, .int .i64 c, .int .i64 e] W (Pure (.tuple #[.int .i64 (ShareX m.pl c e).1, .int .i64 (ShareX m.pl c e).2]) W) := by
  have hel : (esX m).length ≤ 1000000 := by (have h9 := enK_len hsm m.bxs.length; rw [enK_all] at h9; have h8 := hsm.bx; omega)
  cases hc : cardX m.pl c with
  | false =>
    have hc' : within c 0 ((m.cards.length : Int) - 1) = false := by unfold cardX MxA.pl at hc; simpa using hc
    have e0 : ShareX m.pl c e = (0, if mixedX m.pl then 2 else 1) := by unfold ShareX; rw [hc]; cases mixedX m.pl <;> rfl
    rw [e0]
    refine calls_start Tryd.func22 rfl rfl ?_
    refine RunC.seq ?_
    refine RunC.region ?_
    refine RunL.new (New.box rfl) rfl rfl rfl (fun b3 => ?_)
    refine RunL.val (Val.pure rfl) rfl rfl rfl ?_
    refine RunL.val (Val.pure rfl) rfl rfl rfl ?_
    refine RunL.nil ?_
    refine RunE.next ?_
    refine RunC.seq ?_
    refine RunC.draw 15 fol_ (.cons .here rfl .nil) ?_
    refine RunA.val (i := 0) rfl (by kernel_rfl) (by kernel_rfl) (Val.load_agg rfl (.head _) ty_25 rfl) rfl rfl rfl (fun _ _ _ h => h) (.cons .here rfl .nil) rfl ?_
    refine RunA.val (i := 1) rfl (by kernel_rfl) (by kernel_rfl) (Val.pure rfl) rfl rfl rfl (fun _ _ _ h => h) (.cons .here rfl .nil) rfl ?_
    refine RunA.val (i := 2) rfl (by kernel_rfl) (by kernel_rfl) (Val.fieldAddr rfl fld_25_1) rfl rfl rfl (fun _ _ _ h => h) (.cons .here rfl .nil) rfl ?_
    refine RunA.val (i := 3) rfl (by kernel_rfl) (by kernel_rfl) (Val.load_one rfl (.head _) ty_23 rfl) rfl rfl rfl (fun _ _ _ h => h) (.cons .here rfl .nil) rfl ?_
    refine RunA.val (i := 4) rfl (by kernel_rfl) (by kernel_rfl) (Val.len_sl rfl sl_23) rfl rfl rfl (fun _ _ _ h => h) (.cons .here rfl .nil) rfl ?_
    refine RunA.val (i := 5) rfl (by kernel_rfl) (by kernel_rfl) (Val.sub' rfl rfl (IntWalk.i64_in _ ⟨by omega, by omega⟩)) rfl rfl rfl (fun _ _ _ h => h) (.cons .here rfl .nil) rfl ?_
    refine RunA.one (i := 6) (by kernel_rfl) (by kernel_rfl) ?_
    refine RunI.callP rfl (isCall_func rfl ent_42) rfl rfl rfl (fun w hm => rin_calls c 0 ((m.cards.length : Int) - 1) w) (RunK.toA (.cons .here rfl .nil) (.cons .here rfl .nil) rfl ?_)
    refine RunA.val (i := 7) rfl (by kernel_rfl) (by kernel_rfl) (Val.pure rfl) rfl rfl rfl (fun _ _ _ h => h) (.cons .here rfl .nil) rfl ?_
    refine RunA.sure (dj := 19) false rfl hc' ?_
    refine RunA.no (i := 8) rfl (by kernel_rfl) (by kernel_rfl) rfl rfl rfl (fun _ _ _ h => h) (.cons .here rfl .nil) rfl ?_
    refine RunA.no (i := 9) rfl (by kernel_rfl) (by kernel_rfl) rfl rfl rfl (fun _ _ _ h => h) (.cons .here rfl .nil) rfl ?_
    refine RunA.one (i := 10) (by kernel_rfl) (by kernel_rfl) ?_
    refine RunI.no rfl rfl rfl rfl (RunK.toA (.cons .here rfl .nil) (.cons .here rfl .nil) rfl ?_)
    refine RunA.no (i := 11) rfl (by kernel_rfl) (by kernel_rfl) rfl rfl rfl (fun _ _ _ h => h) (.cons .here rfl .nil) rfl ?_
    refine RunA.no (i := 12) rfl (by kernel_rfl) (by kernel_rfl) rfl rfl rfl (fun _ _ _ h => h) (.cons .here rfl .nil) rfl ?_
    refine RunA.one (i := 13) (by kernel_rfl) (by kernel_rfl) ?_
    refine RunI.no rfl rfl rfl rfl (RunK.toA (.cons .here rfl .nil) (.cons .here rfl .nil) rfl ?_)
    refine RunA.val (i := 14) rfl (by kernel_rfl) (by kernel_rfl) (Val.pure rfl) rfl rfl rfl (fun _ _ _ h => h) (.cons .here rfl .nil) rfl ?_
    refine RunA.toB (by kernel_rfl) ?_
    refine RunB.one (i := 15) (by kernel_rfl) ?_
    refine RunI.callP rfl (isCall_func rfl ent_41) rfl rfl rfl (fun w hm => rcheck_calls m hsm false w (hM.mono0 hm)) (RunK.toB ?_)
    refine RunB.one (i := 16) (by kernel_rfl) ?_
    refine RunI.val rfl (Val.pure rfl) rfl rfl rfl (RunK.toB ?_)
    refine RunB.done (by kernel_rfl) ?_
    refine RunE.next ?_
    refine RunC.seq ?_
    refine RunC.seq ?_
    refine RunC.region ?_
    refine RunL.val (Val.pure rfl) rfl rfl rfl ?_
    refine RunL.val (Val.pure rfl) rfl rfl rfl ?_
    refine RunL.nil ?_
    refine RunE.next ?_
    refine RunC.cond rfl ?_ (fun h => absurd h (by cases mixedX m.pl <;> simp))
    intro c0
    clear c0
    refine RunC.seq ?_
    refine RunC.region ?_
    iterate 3 refine RunL.val (Val.pure rfl) rfl rfl rfl ?_
    refine RunL.nil ?_
    refine RunE.next ?_
    refine RunC.ret ?_
    refine RunE.pass_ret ?_
    exact RunE.retP (.r2 rfl (.tmp rfl) (.tmp rfl)) (by cases mixedX m.pl <;> simp)
  | true =>
    have hc' : within c 0 ((m.cards.length : Int) - 1) = true := by unfold cardX MxA.pl at hc; simpa using hc
    have hne : ∀ v, within e 0 (((esX m).length : Int) - 1) = v → entryX m.pl e = v := fun v h => h
    cases hX : mixedX m.pl with
    | false =>
      have e0 : ShareX m.pl c e = (0, 1) := by unfold ShareX; rw [hX]; rfl
      rw [e0]
      refine calls_start Tryd.func22 rfl rfl ?_
      refine RunC.seq ?_
      refine RunC.region ?_
      refine RunL.new (New.box rfl) rfl rfl rfl (fun b3 => ?_)
      refine RunL.val (Val.pure rfl) rfl rfl rfl ?_
      refine RunL.val (Val.pure rfl) rfl rfl rfl ?_
      refine RunL.nil ?_
      refine RunE.next ?_
      refine RunC.seq ?_
      refine RunC.draw 15 fol_ (.cons .here rfl .nil) ?_
      refine RunA.val (i := 0) rfl (by kernel_rfl) (by kernel_rfl) (Val.load_agg rfl (.head _) ty_25 rfl) rfl rfl rfl (fun _ _ _ h => h) (.cons .here rfl .nil) rfl ?_
      refine RunA.val (i := 1) rfl (by kernel_rfl) (by kernel_rfl) (Val.pure rfl) rfl rfl rfl (fun _ _ _ h => h) (.cons .here rfl .nil) rfl ?_
      refine RunA.val (i := 2) rfl (by kernel_rfl) (by kernel_rfl) (Val.fieldAddr rfl fld_25_1) rfl rfl rfl (fun _ _ _ h => h) (.cons .here rfl .nil) rfl ?_
      refine RunA.val (i := 3) rfl (by kernel_rfl) (by kernel_rfl) (Val.load_one rfl (.head _) ty_23 rfl) rfl rfl rfl (fun _ _ _ h => h) (.cons .here rfl .nil) rfl ?_
      refine RunA.val (i := 4) rfl (by kernel_rfl) (by kernel_rfl) (Val.len_sl rfl sl_23) rfl rfl rfl (fun _ _ _ h => h) (.cons .here rfl .nil) rfl ?_
      refine RunA.val (i := 5) rfl (by kernel_rfl) (by kernel_rfl) (Val.sub' rfl rfl (IntWalk.i64_in _ ⟨by omega, by omega⟩)) rfl rfl rfl (fun _ _ _ h => h) (.cons .here rfl .nil) rfl ?_
      refine RunA.one (i := 6) (by kernel_rfl) (by kernel_rfl) ?_
      refine RunI.callP rfl (isCall_func rfl ent_42) rfl rfl rfl (fun w hm => rin_calls c 0 ((m.cards.length : Int) - 1) w) (RunK.toA (.cons .here rfl .nil) (.cons .here rfl .nil) rfl ?_)
      refine RunA.val (i := 7) rfl (by kernel_rfl) (by kernel_rfl) (Val.pure rfl) rfl rfl rfl (fun _ _ _ h => h) (.cons .here rfl .nil) rfl ?_
      refine RunA.sure (dj := 19) true rfl hc' ?_
      refine RunA.val (i := 8) rfl (by kernel_rfl) (by kernel_rfl) (Val.pure rfl) rfl rfl rfl (fun _ _ _ h => h) (.cons .here rfl .nil) rfl ?_
      refine RunA.val (i := 9) rfl (by kernel_rfl) (by kernel_rfl) (Val.load_agg rfl (.head _) ty_25 rfl) rfl rfl rfl (fun _ _ _ h => h) (.cons .here rfl .nil) rfl ?_
      refine RunA.one (i := 10) (by kernel_rfl) (by kernel_rfl) ?_
      refine RunI.callN rfl (isCall_func rfl ent_34) rfl rfl rfl (fun w hm => rEntries0_calls m hsm hbx hti w (hM.mono0 hm)) (fun b22 => (RunK.toA (.cons .here rfl .nil) (.cons .here rfl .nil) rfl ?_))
      refine RunA.val (i := 11) rfl (by kernel_rfl) (by kernel_rfl) (Val.len_sl rfl sl_53) rfl rfl rfl (fun _ _ _ h => h) (.cons .here rfl .nil) rfl ?_
      refine RunA.val (i := 12) rfl (by kernel_rfl) (by kernel_rfl) (Val.sub' rfl rfl (IntWalk.i64_in _ ⟨by omega, by omega⟩)) rfl rfl rfl (fun _ _ _ h => h) (.cons .here rfl .nil) rfl ?_
      refine RunA.one (i := 13) (by kernel_rfl) (by kernel_rfl) ?_
      refine RunI.callP rfl (isCall_func rfl ent_42) rfl rfl rfl (fun w hm => rin_calls e 0 (((esX m).length : Int) - 1) w) (RunK.toA (.cons .here rfl .nil) (.cons .here rfl .nil) rfl ?_)
      refine RunA.val (i := 14) rfl (by kernel_rfl) (by kernel_rfl) (Val.pure rfl) rfl rfl rfl (fun _ _ _ h => h) (.cons .here rfl .nil) rfl ?_
      refine RunA.toB (by kernel_rfl) ?_
      refine RunB.one (i := 15) (by kernel_rfl) ?_
      refine RunI.callP rfl (isCall_func rfl ent_41) rfl rfl rfl (fun w hm => (by have h9 := rcheck_calls m hsm (within e 0 (((esX m).length : Int) - 1)) w (hM.mono0 hm); rw [hX] at h9; exact h9)) (RunK.toB ?_)
      refine RunB.one (i := 16) (by kernel_rfl) ?_
      refine RunI.val rfl (Val.pure rfl) rfl rfl rfl (RunK.toB ?_)
      refine RunB.done (by kernel_rfl) ?_
      refine RunE.next ?_
      refine RunC.seq ?_
      refine RunC.seq ?_
      refine RunC.region ?_
      refine RunL.val (Val.pure rfl) rfl rfl rfl ?_
      refine RunL.val (Val.pure rfl) rfl rfl rfl ?_
      refine RunL.nil ?_
      refine RunE.next ?_
      refine RunC.cond rfl ?_ (fun h => absurd h (by simp))
      intro c0
      clear c0
      refine RunC.seq ?_
      refine RunC.region ?_
      iterate 3 refine RunL.val (Val.pure rfl) rfl rfl rfl ?_
      refine RunL.nil ?_
      refine RunE.next ?_
      refine RunC.ret ?_
      refine RunE.pass_ret ?_
      exact RunE.retP (.r2 rfl (.tmp rfl) (.tmp rfl)) (by simp)
    | true =>
      cases he : within e 0 (((esX m).length : Int) - 1) with
      | false =>
        have e0 : ShareX m.pl c e = (0, 2) := by unfold ShareX; rw [hX, hc, hne _ he]; rfl
        rw [e0]
        refine calls_start Tryd.func22 rfl rfl ?_
        refine RunC.seq ?_
        refine RunC.region ?_
        refine RunL.new (New.box rfl) rfl rfl rfl (fun b3 => ?_)
        refine RunL.val (Val.pure rfl) rfl rfl rfl ?_
        refine RunL.val (Val.pure rfl) rfl rfl rfl ?_
        refine RunL.nil ?_
        refine RunE.next ?_
        refine RunC.seq ?_
        refine RunC.draw 15 fol_ (.cons .here rfl .nil) ?_
        refine RunA.val (i := 0) rfl (by kernel_rfl) (by kernel_rfl) (Val.load_agg rfl (.head _) ty_25 rfl) rfl rfl rfl (fun _ _ _ h => h) (.cons .here rfl .nil) rfl ?_
        refine RunA.val (i := 1) rfl (by kernel_rfl) (by kernel_rfl) (Val.pure rfl) rfl rfl rfl (fun _ _ _ h => h) (.cons .here rfl .nil) rfl ?_
        refine RunA.val (i := 2) rfl (by kernel_rfl) (by kernel_rfl) (Val.fieldAddr rfl fld_25_1) rfl rfl rfl (fun _ _ _ h => h) (.cons .here rfl .nil) rfl ?_
        refine RunA.val (i := 3) rfl (by kernel_rfl) (by kernel_rfl) (Val.load_one rfl (.head _) ty_23 rfl) rfl rfl rfl (fun _ _ _ h => h) (.cons .here rfl .nil) rfl ?_
        refine RunA.val (i := 4) rfl (by kernel_rfl) (by kernel_rfl) (Val.len_sl rfl sl_23) rfl rfl rfl (fun _ _ _ h => h) (.cons .here rfl .nil) rfl ?_
        refine RunA.val (i := 5) rfl (by kernel_rfl) (by kernel_rfl) (Val.sub' rfl rfl (IntWalk.i64_in _ ⟨by omega, by omega⟩)) rfl rfl rfl (fun _ _ _ h => h) (.cons .here rfl .nil) rfl ?_
        refine RunA.one (i := 6) (by kernel_rfl) (by kernel_rfl) ?_
        refine RunI.callP rfl (isCall_func rfl ent_42) rfl rfl rfl (fun w hm => rin_calls c 0 ((m.cards.length : Int) - 1) w) (RunK.toA (.cons .here rfl .nil) (.cons .here rfl .nil) rfl ?_)
        refine RunA.val (i := 7) rfl (by kernel_rfl) (by kernel_rfl) (Val.pure rfl) rfl rfl rfl (fun _ _ _ h => h) (.cons .here rfl .nil) rfl ?_
        refine RunA.sure (dj := 19) true rfl hc' ?_
        refine RunA.val (i := 8) rfl (by kernel_rfl) (by kernel_rfl) (Val.pure rfl) rfl rfl rfl (fun _ _ _ h => h) (.cons .here rfl .nil) rfl ?_
        refine RunA.val (i := 9) rfl (by kernel_rfl) (by kernel_rfl) (Val.load_agg rfl (.head _) ty_25 rfl) rfl rfl rfl (fun _ _ _ h => h) (.cons .here rfl .nil) rfl ?_
        refine RunA.one (i := 10) (by kernel_rfl) (by kernel_rfl) ?_
        refine RunI.callN rfl (isCall_func rfl ent_34) rfl rfl rfl (fun w hm => rEntries0_calls m hsm hbx hti w (hM.mono0 hm)) (fun b22 => (RunK.toA (.cons .here rfl .nil) (.cons .here rfl .nil) rfl ?_))
        refine RunA.val (i := 11) rfl (by kernel_rfl) (by kernel_rfl) (Val.len_sl rfl sl_53) rfl rfl rfl (fun _ _ _ h => h) (.cons .here rfl .nil) rfl ?_
        refine RunA.val (i := 12) rfl (by kernel_rfl) (by kernel_rfl) (Val.sub' rfl rfl (IntWalk.i64_in _ ⟨by omega, by omega⟩)) rfl rfl rfl (fun _ _ _ h => h) (.cons .here rfl .nil) rfl ?_
        refine RunA.one (i := 13) (by kernel_rfl) (by kernel_rfl) ?_
        refine RunI.callP rfl (isCall_func rfl ent_42) rfl rfl rfl (fun w hm => (by have h9 := rin_calls e 0 (((esX m).length : Int) - 1) w; rw [he] at h9; exact h9)) (RunK.toA (.cons .here rfl .nil) (.cons .here rfl .nil) rfl ?_)
        refine RunA.val (i := 14) rfl (by kernel_rfl) (by kernel_rfl) (Val.pure rfl) rfl rfl rfl (fun _ _ _ h => h) (.cons .here rfl .nil) rfl ?_
        refine RunA.toB (by kernel_rfl) ?_
        refine RunB.one (i := 15) (by kernel_rfl) ?_
        refine RunI.callP rfl (isCall_func rfl ent_41) rfl rfl rfl (fun w hm => (by have h9 := rcheck_calls m hsm false w (hM.mono0 hm); rw [hX] at h9; exact h9)) (RunK.toB ?_)
        refine RunB.one (i := 16) (by kernel_rfl) ?_
        refine RunI.val rfl (Val.pure rfl) rfl rfl rfl (RunK.toB ?_)
        refine RunB.done (by kernel_rfl) ?_
        refine RunE.next ?_
        refine RunC.seq ?_
        refine RunC.seq ?_
        refine RunC.region ?_
        refine RunL.val (Val.pure rfl) rfl rfl rfl ?_
        refine RunL.val (Val.pure rfl) rfl rfl rfl ?_
        refine RunL.nil ?_
        refine RunE.next ?_
        refine RunC.cond rfl ?_ (fun h => absurd h (by simp))
        intro c0
        clear c0
        refine RunC.seq ?_
        refine RunC.region ?_
        iterate 3 refine RunL.val (Val.pure rfl) rfl rfl rfl ?_
        refine RunL.nil ?_
        refine RunE.next ?_
        refine RunC.ret ?_
        refine RunE.pass_ret ?_
        exact RunE.retP (.r2 rfl (.tmp rfl) (.tmp rfl)) (by simp)
      | true =>
        obtain ⟨c, rfl, hck⟩ := card_nat hc
        obtain ⟨e, rfl, hek⟩ := entry_nat (hne _ he)
        have hck : c < m.cards.length := hck
        have hek : e < (esX m).length := hek
        rw [share_at hX hck hek]
        have hfl := fs_len m
        obtain ⟨h4, h8, h12⟩ := mixed_ok hX
        have hbl := ways_bd h12 (show (fsX m.pl).length ≤ 4 by rw [fs_len]; exact hc4 hX) 0
        have hwl := waysO_len (m := m)
        have hsh := share_count (ne := (esX m).length) (fs := fsX m.pl) (c := c) (by omega) e
        obtain ⟨base, hbase⟩ : ∃ base, waysL (esX m).length (fsX m.pl) 0 = base := ⟨_, rfl⟩
        rw [hbase] at hbl hwl hsh
        refine calls_start Tryd.func22 rfl rfl ?_
        refine RunC.seq ?_
        refine RunC.region ?_
        refine RunL.new (New.box rfl) rfl rfl rfl (fun b3 => ?_)
        refine RunL.val (Val.pure rfl) rfl rfl rfl ?_
        refine RunL.val (Val.pure rfl) rfl rfl rfl ?_
        refine RunL.nil ?_
        refine RunE.next ?_
        refine RunC.seq ?_
        refine RunC.draw 15 fol_ (.cons .here rfl .nil) ?_
        refine RunA.val (i := 0) rfl (by kernel_rfl) (by kernel_rfl) (Val.load_agg rfl (.head _) ty_25 rfl) rfl rfl rfl (fun _ _ _ h => h) (.cons .here rfl .nil) rfl ?_
        refine RunA.val (i := 1) rfl (by kernel_rfl) (by kernel_rfl) (Val.pure rfl) rfl rfl rfl (fun _ _ _ h => h) (.cons .here rfl .nil) rfl ?_
        refine RunA.val (i := 2) rfl (by kernel_rfl) (by kernel_rfl) (Val.fieldAddr rfl fld_25_1) rfl rfl rfl (fun _ _ _ h => h) (.cons .here rfl .nil) rfl ?_
        refine RunA.val (i := 3) rfl (by kernel_rfl) (by kernel_rfl) (Val.load_one rfl (.head _) ty_23 rfl) rfl rfl rfl (fun _ _ _ h => h) (.cons .here rfl .nil) rfl ?_
        refine RunA.val (i := 4) rfl (by kernel_rfl) (by kernel_rfl) (Val.len_sl rfl sl_23) rfl rfl rfl (fun _ _ _ h => h) (.cons .here rfl .nil) rfl ?_
        refine RunA.val (i := 5) rfl (by kernel_rfl) (by kernel_rfl) (Val.sub' rfl rfl (IntWalk.i64_in _ ⟨by omega, by omega⟩)) rfl rfl rfl (fun _ _ _ h => h) (.cons .here rfl .nil) rfl ?_
        refine RunA.one (i := 6) (by kernel_rfl) (by kernel_rfl) ?_
        refine RunI.callP rfl (isCall_func rfl ent_42) rfl rfl rfl (fun w hm => rin_calls c 0 ((m.cards.length : Int) - 1) w) (RunK.toA (.cons .here rfl .nil) (.cons .here rfl .nil) rfl ?_)
        refine RunA.val (i := 7) rfl (by kernel_rfl) (by kernel_rfl) (Val.pure rfl) rfl rfl rfl (fun _ _ _ h => h) (.cons .here rfl .nil) rfl ?_
        refine RunA.sure (dj := 19) true rfl hc' ?_
        refine RunA.val (i := 8) rfl (by kernel_rfl) (by kernel_rfl) (Val.pure rfl) rfl rfl rfl (fun _ _ _ h => h) (.cons .here rfl .nil) rfl ?_
        refine RunA.val (i := 9) rfl (by kernel_rfl) (by kernel_rfl) (Val.load_agg rfl (.head _) ty_25 rfl) rfl rfl rfl (fun _ _ _ h => h) (.cons .here rfl .nil) rfl ?_
        refine RunA.one (i := 10) (by kernel_rfl) (by kernel_rfl) ?_
        refine RunI.callN rfl (isCall_func rfl ent_34) rfl rfl rfl (fun w hm => rEntries0_calls m hsm hbx hti w (hM.mono0 hm)) (fun b22 => (RunK.toA (.cons .here rfl .nil) (.cons .here rfl .nil) rfl ?_))
        refine RunA.val (i := 11) rfl (by kernel_rfl) (by kernel_rfl) (Val.len_sl rfl sl_53) rfl rfl rfl (fun _ _ _ h => h) (.cons .here rfl .nil) rfl ?_
        refine RunA.val (i := 12) rfl (by kernel_rfl) (by kernel_rfl) (Val.sub' rfl rfl (IntWalk.i64_in _ ⟨by omega, by omega⟩)) rfl rfl rfl (fun _ _ _ h => h) (.cons .here rfl .nil) rfl ?_
        refine RunA.one (i := 13) (by kernel_rfl) (by kernel_rfl) ?_
        refine RunI.callP rfl (isCall_func rfl ent_42) rfl rfl rfl (fun w hm => (by have h9 := rin_calls e 0 (((esX m).length : Int) - 1) w; rw [he] at h9; exact h9)) (RunK.toA (.cons .here rfl .nil) (.cons .here rfl .nil) rfl ?_)
        refine RunA.val (i := 14) rfl (by kernel_rfl) (by kernel_rfl) (Val.pure rfl) rfl rfl rfl (fun _ _ _ h => h) (.cons .here rfl .nil) rfl ?_
        refine RunA.toB (by kernel_rfl) ?_
        refine RunB.one (i := 15) (by kernel_rfl) ?_
        refine RunI.callP rfl (isCall_func rfl ent_41) rfl rfl rfl (fun w hm => (by have h9 := rcheck_calls m hsm true w (hM.mono0 hm); rw [hX] at h9; exact h9)) (RunK.toB ?_)
        refine RunB.one (i := 16) (by kernel_rfl) ?_
        refine RunI.val rfl (Val.pure rfl) rfl rfl rfl (RunK.toB ?_)
        refine RunB.done (by kernel_rfl) ?_
        refine RunE.next ?_
        refine RunC.seq ?_
        refine RunC.seq ?_
        refine RunC.region ?_
        refine RunL.val (Val.pure rfl) rfl rfl rfl ?_
        refine RunL.val (Val.pure rfl) rfl rfl rfl ?_
        refine RunL.nil ?_
        refine RunE.next ?_
        refine RunC.cond rfl (fun h => absurd h (by simp)) ?_
        intro c0
        clear c0
        refine RunC.skip ?_
        refine RunE.next ?_
        refine RunC.seq ?_
        refine RunC.region ?_
        refine RunL.val (Val.load_agg rfl (.head _) ty_25 rfl) rfl rfl rfl ?_
        refine RunL.callNT (isCall_func rfl ent_52) rfl rfl rfl (fun w hm => rWays_calls m hsm hX (hc4 hX) base hbase w (hM.mono0 hm)) (fun z32 => ?_)
        obtain ⟨⟨x32, L32⟩, hG32⟩ := z32
        have hlen := hG32.len
        have hx32 := hG32.ok
        dsimp only at hlen hx32 ⊢
        refine RunL.val (Val.pure rfl) rfl rfl rfl ?_
        refine RunL.nil ?_
        refine RunE.next ?_
        refine RunC.seq ?_
        refine RunC.region ?_
        refine RunL.val (Val.pure rfl) rfl rfl rfl ?_
        refine RunL.nil ?_
        refine RunE.next ?_
        refine RunC.seq ?_
        refine RunC.seq ?_
        refine RunC.region ?_
        refine RunL.val (Val.pure rfl) rfl rfl rfl ?_
        refine RunL.nil ?_
        refine RunE.next ?_
        refine RunC.block ?_
        refine RunC.loopK (base.length) (fun k q => (11, .int .i64 (k : Int)) :: (10, .int .i64 (((base.take k).countP (keyP (esX m).length c e) : Nat) : Int)) :: q) (fun _ => _) (fun _ => []) (fun _ => True) trivial rfl (Sub.consE (t := 11) rfl rfl (Sub.consE (t := 10) rfl rfl (Sub.cons (t := 1) rfl (Sub.cons (t := 2) rfl (Sub.cons (t := 9) rfl (Sub.nil _)))))) (.cons .here rfl (Pick.refl _)) ?_
        intro k kN kI
        clear kI
        refine RunC.seq ?_
        refine RunC.seq ?_
        refine RunC.region ?_
        refine RunL.val (Val.pure rfl) rfl rfl rfl ?_
        refine RunL.val (Val.pure rfl) rfl rfl rfl ?_
        refine RunL.val (Val.len_sl rfl sl_86) rfl rfl rfl ?_
        refine RunL.val (Val.pure rfl) rfl rfl rfl ?_
        refine RunL.nil ?_
        refine RunE.next ?_
        refine RunC.cond rfl ?_ ?_
        · intro c1
          have c1' := c1; clear c1
          try simp only [decide_eq_true_eq, decide_eq_false_iff_not, Bool.not_eq_true', Bool.not_eq_false', Bool.and_eq_true, Bool.or_eq_true, Bool.and_eq_false_iff, Bool.or_eq_false_iff, Int.not_le, Int.not_lt] at c1'
          have hk : k < base.length := by omega
          obtain ⟨B, hBm, hk2, hBk, hBl⟩ := hG32.at hk
          dsimp only at hBm hk2 hBk
          have hBo := hG32.each B hBm
          have hBc : B.l.length = m.cards.length := by (rw [hBl]; exact hwl _ (List.getElem_mem hk))
          obtain ⟨y, hy⟩ : ∃ y, B.l[c]'(by omega) = y := ⟨_, rfl⟩
          have hcle := List.countP_le_length (p := keyP (esX m).length c e) (l := base.take k)
          rw [List.length_take] at hcle
          have hcy := take_cnt (keyP (esX m).length c e) hk hBl.symm
          rw [show keyP (esX m).length c e B.l = decide (y = e) by (unfold keyP; rw [getD_in _ hy])] at hcy
          refine RunC.skip ?_
          refine RunE.next ?_
          refine RunC.seq ?_
          refine RunC.block ?_
          refine RunC.seq ?_
          refine RunC.region ?_
          refine RunL.val (Val.pure rfl) rfl rfl rfl ?_
          refine RunL.val (Val.pure rfl) rfl rfl rfl ?_
          obtain ⟨bx32, cx32, rx32, rfl, lx321, lx322, lx323⟩ := hx32.has (by omega)
          refine RunL.val (Val.indexAddr_slp rfl rfl sl_86 (by omega) (by omega) rfl) rfl rfl rfl ?_
          refine RunL.val (Val.load_gen rfl (fun w hm => (Sl.rowsR (xs := L32.reverse.map WB.cells) (t := rx32) (hm.at (.tail _ (.head _))) (w_row L32)).loadM1 (by decide) (Mem.refl w) (by simp) ty_34 hk2 (v := .slice (ownQ B.x) B.l.length (ownC B.x)) (by rw [hBk]; rfl))) rfl rfl rfl ?_
          refine RunL.val (Val.pure rfl) rfl rfl rfl ?_
          refine RunL.val (Val.indexAddr_slp rfl rfl sl_34 (by omega) (by omega) (own_ptr hBo (by omega))) rfl rfl rfl ?_
          refine RunL.val (Val.load_gen rfl (fun w hm => (ints_sl (l := natI B.l) (by rw [natI_len]; exact hBo) (fun b o h0 => by have h := wR_mem hBm h0; exact hm.at (.tail _ (.tail _ ((by first | exact List.mem_append_left _ h | exact List.mem_append_right _ (List.mem_append_left _ h))))))).loadM1 (by decide) (Mem.refl w) (by simp) ty_3 (by rw [natI_len]; omega) (v := .int .i64 (y : Int)) (by simp [natI, hy]))) rfl rfl rfl ?_
          refine RunL.val (Val.pure rfl) rfl rfl rfl ?_
          refine RunL.val (Val.pure rfl) rfl rfl rfl ?_
          refine RunL.nil ?_
          refine RunE.next ?_
          refine RunC.cond rfl ?_ ?_
          · intro c2
            have c2' := c2; clear c2
            try simp only [decide_eq_true_eq, decide_eq_false_iff_not, Bool.not_eq_true', Bool.not_eq_false', Bool.and_eq_true, Bool.or_eq_true, Bool.and_eq_false_iff, Bool.or_eq_false_iff, Int.not_le, Int.not_lt] at c2'
            rw [if_pos (by simp; omega)] at hcy
            refine RunC.region ?_
            refine RunL.val (Val.pure rfl) rfl rfl rfl ?_
            refine RunL.val (Val.add rfl rfl (IntWalk.i64_in _ ⟨by omega, by omega⟩)) rfl rfl rfl ?_
            refine RunL.val (Val.pure rfl) rfl rfl rfl ?_
            refine RunL.nil ?_
            refine RunE.block_normal ?_
            refine RunE.next ?_
            refine RunC.region ?_
            refine RunL.val (Val.pure rfl) rfl rfl rfl ?_
            refine RunL.val (Val.add rfl rfl (IntWalk.i64_in _ ⟨by omega, by omega⟩)) rfl rfl rfl ?_
            refine RunL.val (Val.pure rfl) rfl rfl rfl ?_
            refine RunL.nil ?_
            exact RunE.round (by omega) trivial rfl (Sub.consE (t := 11) rfl rfl (Sub.consE (t := 10) rfl (by rw [hcy]; rfl) (Sub.cons (t := 1) rfl (Sub.cons (t := 2) rfl (Sub.cons (t := 9) rfl (Sub.nil _)))))) (.cons .here rfl (.cons .here rfl (Pick.refl _)))
          · intro c2
            have c2' := c2; clear c2
            try simp only [decide_eq_true_eq, decide_eq_false_iff_not, Bool.not_eq_true', Bool.not_eq_false', Bool.and_eq_true, Bool.or_eq_true, Bool.and_eq_false_iff, Bool.or_eq_false_iff, Int.not_le, Int.not_lt] at c2'
            rw [if_neg (by simp; omega)] at hcy
            refine RunC.skip ?_
            refine RunE.block_normal ?_
            refine RunE.next ?_
            refine RunC.region ?_
            refine RunL.val (Val.pure rfl) rfl rfl rfl ?_
            refine RunL.val (Val.add rfl rfl (IntWalk.i64_in _ ⟨by omega, by omega⟩)) rfl rfl rfl ?_
            refine RunL.val (Val.pure rfl) rfl rfl rfl ?_
            refine RunL.nil ?_
            exact RunE.round (by omega) trivial rfl (Sub.consE (t := 11) rfl rfl (Sub.consE (t := 10) rfl (by rw [hcy]; rfl) (Sub.cons (t := 1) rfl (Sub.cons (t := 2) rfl (Sub.cons (t := 9) rfl (Sub.nil _)))))) (.cons .here rfl (.cons .here rfl (Pick.refl _)))
        · intro c1
          have c1' := c1; clear c1
          try simp only [decide_eq_true_eq, decide_eq_false_iff_not, Bool.not_eq_true', Bool.not_eq_false', Bool.and_eq_true, Bool.or_eq_true, Bool.and_eq_false_iff, Bool.or_eq_false_iff, Int.not_le, Int.not_lt] at c1'
          obtain rfl : k = base.length := by omega
          rw [List.take_length]
          refine RunC.exit ?_
          refine RunE.pass_exit ?_
          refine RunE.pass_exit ?_
          refine RunE.block_here ?_
          refine RunE.next ?_
          refine RunC.seq ?_
          refine RunC.region ?_
          iterate 3 refine RunL.val (Val.pure rfl) rfl rfl rfl ?_
          refine RunL.nil ?_
          refine RunE.next ?_
          refine RunC.ret ?_
          exact RunE.retP (.r2 rfl (.tmp rfl) (.tmp rfl)) (by rw [hsh])
end Go.Proofs.YtlhdalcipflblaaDoor
/- The facts on the tables of types and on the entries of functions that the walks use. Written by program. -/
set_option linter.unusedSimpArgs false
set_option linter.unusedVariables false
namespace Go.Proofs.YtlhdalcipflblaaDoor
open Go Go.Eng
theorem ent_56 : Enters Tryd.prog 56 := enters_of Tryd.func56 (by kernel_rfl) rfl
end Go.Proofs.YtlhdalcipflblaaDoor
/- Walks of the reference of layer 10: open, First, Sure, Lost. -/
set_option linter.unusedSimpArgs false
set_option linter.unusedVariables false
namespace Go.Hp
open Go Go.Eng Go.Pw1 Go.Proofs.YtlhdalcipflblaaDoor
theorem getD_lt {α : Type} {l : List α} {c : Nat} {d : α} (h : c < l.length) : l.getD c d = l[c] := by rw [List.getD_eq_getElem?_getD, List.getElem?_eq_getElem h]; rfl
/-- What stands for a card after some of the ways: the same entry in all of them, or -1. -/
def sI (base : List (List Nat)) (i k : Nat) : Int := if (base.take i).all (fun l => decide (l.getD k 0 = (base.getD 0 []).getD k 0)) then (((base.getD 0 []).getD k 0 : Nat) : Int) else -1
def outL (n : Nat) (base : List (List Nat)) (i j : Nat) : List Int := (List.range n).map fun k => sI base (if k < j then i + 1 else i) k
theorem outL_len (n : Nat) (base : List (List Nat)) (i j : Nat) : (outL n base i j).length = n := by simp [outL]
theorem outL_at {n : Nat} {base : List (List Nat)} {i j : Nat} {k : Nat} (hk : k < (outL n base i j).length) : (outL n base i j)[k] = sI base (if k < j then i + 1 else i) k := by simp [outL]
theorem sI_s {base : List (List Nat)} {i k : Nat} (hi : i < base.length) {l : List Nat} (hl : base[i] = l) : sI base (i + 1) k = if ((l.getD k 0 : Nat) : Int) = sI base i k then sI base i k else -1 := by
  unfold sI
  rw [List.take_succ_eq_append_getElem hi, List.all_append, hl]
  by_cases h : (base.take i).all (fun l => decide (l.getD k 0 = (base.getD 0 []).getD k 0)) = true
  · rw [if_pos h, h]
    by_cases h2 : l.getD k 0 = (base.getD 0 []).getD k 0
    · rw [if_pos (by simp only [List.all_cons, List.all_nil, Bool.and_true, Bool.true_and, decide_eq_true_eq]; exact h2), if_pos (by rw [h2])]
    · rw [if_neg (by simp only [List.all_cons, List.all_nil, Bool.and_true, Bool.true_and, decide_eq_true_eq]; exact h2), if_neg (fun h3 => h2 (Int.ofNat_inj.1 h3))]
  · rw [if_neg h, if_neg (by rw [Bool.and_eq_true]; exact fun h2 => h h2.1)]
    split <;> rfl
theorem outL_set {n : Nat} {base : List (List Nat)} {i j : Nat} (hj : j < n) {v : Int} (hv : sI base (i + 1) j = v) : (outL n base i j).set j v = outL n base i (j + 1) := by
  refine List.ext_getElem (by simp [outL]) fun k h1 h2 => ?_
  rw [List.getElem_set, outL_at h2]
  by_cases e : j = k
  · subst e
    rw [if_pos rfl, if_pos (by omega), hv]
  · rw [if_neg e, outL_at]
    congr 1
    have : (k < j + 1) ↔ k < j := by omega
    simp only [this]
theorem outL_same {n : Nat} {base : List (List Nat)} {i j : Nat} (hj : j < n) (hv : sI base (i + 1) j = sI base i j) : outL n base i (j + 1) = outL n base i j := by
  refine List.ext_getElem (by simp [outL]) fun k h1 h2 => ?_
  rw [outL_at h1, outL_at h2]
  by_cases e : k = j
  · subst e
    rw [if_pos (by omega), if_neg (by omega), hv]
  · have : (k < j + 1) ↔ k < j := by omega
    simp only [this]
theorem outL_next (n : Nat) (base : List (List Nat)) (i : Nat) : outL n base i n = outL n base (i + 1) 0 := by
  refine List.ext_getElem (by simp [outL]) fun k h1 h2 => ?_
  rw [outL_at h1, outL_at h2]
  rw [outL_len] at h1
  rw [if_pos h1, if_neg (by omega)]
theorem sI_0 {base : List (List Nat)} {k : Nat} : sI base 0 k = (((base.getD 0 []).getD k 0 : Nat) : Int) := by
  unfold sI
  rw [if_pos (by simp)]
theorem outL_0 {n : Nat} {base : List (List Nat)} (h : (base.getD 0 []).length = n) : outL n base 0 0 = natI (base.getD 0 []) := by
  refine List.ext_getElem (by rw [outL_len, natI_len, h]) fun k h1 h2 => ?_
  rw [outL_at h1]
  rw [if_neg (by omega), sI_0]
  rw [natI_len] at h2
  rw [getD_lt h2]
  simp [natI]
theorem lastP_none {p : Nat → Bool} : ∀ {n : Nat}, (∀ k, k < n → p k = false) → lastP p n = -1
  | 0, _ => rfl
  | n + 1, h => by
    unfold lastP
    rw [if_neg (by rw [h n (by omega)]; decide)]
    exact lastP_none fun k hk => h k (by omega)
theorem lastP_one {p : Nat → Bool} {e : Nat} (he : p e = true) : ∀ {n : Nat}, e < n → (∀ k, p k = true → k = e) → lastP p n = (e : Int)
  | 0, h, _ => by omega
  | n + 1, h, hu => by
    unfold lastP
    by_cases hp : p n = true
    · rw [if_pos hp, hu n hp]
    · rw [if_neg hp]
      have : n ≠ e := fun h2 => hp (h2 ▸ he)
      exact lastP_one he (by omega) hu
theorem outL_sure {m : MxA} {base : List (List Nat)} (hb : waysL (esX m).length (fsX m.pl) 0 = base) (h0 : 0 < base.length) : outL m.cards.length base base.length 0 = (List.range m.cards.length).map (sureC m.pl) := by
  unfold outL
  refine List.map_congr_left fun k hk => ?_
  have hkl := List.mem_range.1 hk
  have hkf : k < (fsX m.pl).length := by rw [fs_len]; exact hkl
  have hw0 : Way (esX m).length (fsX m.pl) 0 (base.getD 0 []) := ways_mem.1 (by rw [hb, getD_lt h0]; exact List.getElem_mem h0)
  have hk0 : k < (base.getD 0 []).length := by rw [hw0.len]; exact hkf
  obtain ⟨e, he⟩ : ∃ e, (base.getD 0 []).getD k 0 = e := ⟨_, rfl⟩
  have he1 : (base.getD 0 []).getD k (esX m).length = e := by rw [← he, getD_lt hk0, getD_lt hk0]
  have hen : e < (esX m).length := by
    have h9 := (hw0.fit k hk0).1
    rw [getD_lt hk0] at he
    omega
  have hp : ∀ x, sureP m.pl k x = true ↔ ∀ l, Way (esX m).length (fsX m.pl) 0 l → l.getD k (esX m).length = x := fun x => by
    unfold sureP
    rw [decide_eq_true_eq]
    exact share_all hkf
  have hu : ∀ x, sureP m.pl k x = true → x = e := fun x hx => by
    have := (hp x).1 hx _ hw0
    omega
  rw [if_neg (by omega)]
  unfold sI sureC
  rw [List.take_length, he]
  split
  · rename_i h
    rw [List.all_eq_true] at h
    refine (lastP_one ((hp e).2 fun l hl => ?_) hen hu).symm
    have hm : l ∈ base := by rw [← hb]; exact ways_mem.2 hl
    have h2 := of_decide_eq_true (h l hm)
    have h3 : k < l.length := by rw [hl.len]; exact hkf
    rw [← h2, getD_lt h3, getD_lt h3]
  · rename_i h
    refine (lastP_none fun x _ => ?_).symm
    cases hx : sureP m.pl k x with
    | false => rfl
    | true =>
      refine absurd ?_ h
      have hxe := hu x hx
      subst hxe
      rw [List.all_eq_true]
      intro l hl
      have hw : Way (esX m).length (fsX m.pl) 0 l := ways_mem.1 (by rw [hb]; exact hl)
      have h3 : k < l.length := by rw [hw.len]; exact hkf
      have h2 := (hp _).1 hx l hw
      refine decide_eq_true ?_
      rw [getD_lt h3] at h2
      rw [getD_lt h3, h2]
/-- Ways without an entry. -/
def noE (x : Nat) (l : List Nat) : Bool := !decide (x ∈ l)
theorem noE_used {m : MxA} {base : List (List Nat)} (hb : waysL (esX m).length (fsX m.pl) 0 = base) {x : Nat} (hx : x < (esX m).length) : usedL (esX m).length (fsX m.pl) x + base.countP (noE x) = base.length := by
  rw [used_count hx, hb, List.length_eq_countP_add_countP (fun l => decide (x ∈ l)) (l := base)]
  congr 1
  refine List.countP_congr fun l _ => ?_
  simp [noE]
theorem setOf_s (p : Nat → Bool) (n : Nat) : setOf p (n + 1) = if p n then setOf p n + 2 ^ n else setOf p n := by
  rw [← or_add (setOf_lt p n)]
  rfl
end Go.Hp
namespace Go.Proofs.YtlhdalcipflblaaDoor
open Go Go.Eng Go.Hp Go.Pw1

theorem ropen_err (m : MxA) (hsm : MSm m) (hc4 : mixedX m.pl = true → m.cards.length ≤ 4) (hw : waysE m.pl ≠ 0) (W : World) (hM : MOk W m) : Calls Tryd.prog 56 #[m.v] W (Pure (.tuple #[.slice none 0 0, .int .i64 (waysE m.pl)]) W) := by
  cases hX : mixedX m.pl with
  | false =>
    have e : waysE m.pl = 1 := by unfold waysE; rw [hX]; rfl
    rw [e]
    refine calls_start Tryd.func56 rfl rfl ?_
    refine RunC.seq ?_
    refine RunC.region ?_
    refine RunL.new (New.box rfl) rfl rfl rfl (fun b1 => ?_)
    refine RunL.val (Val.pure rfl) rfl rfl rfl ?_
    refine RunL.val (Val.pure rfl) rfl rfl rfl ?_
    refine RunL.nil ?_
    refine RunE.next ?_
    refine RunC.seq ?_
    refine RunC.region ?_
    refine RunL.val (Val.load_agg rfl (.head _) ty_25 rfl) rfl rfl rfl ?_
    refine RunL.callP (isCall_func rfl ent_41) rfl rfl rfl (fun w hm => (by have h9 := rcheck_calls m hsm true w (hM.mono0 hm); rw [hX] at h9; exact h9)) ?_
    refine RunL.val (Val.pure rfl) rfl rfl rfl ?_
    refine RunL.nil ?_
    refine RunE.next ?_
    refine RunC.seq ?_
    refine RunC.seq ?_
    refine RunC.region ?_
    refine RunL.val (Val.pure rfl) rfl rfl rfl ?_
    refine RunL.val (Val.pure rfl) rfl rfl rfl ?_
    refine RunL.nil ?_
    refine RunE.next ?_
    refine RunC.cond rfl ?_ (fun h => absurd h (by simp))
    intro c0
    clear c0
    refine RunC.seq ?_
    refine RunC.region ?_
    iterate 3 refine RunL.val (Val.pure rfl) rfl rfl rfl ?_
    refine RunL.nil ?_
    refine RunE.next ?_
    refine RunC.ret ?_
    refine RunE.pass_ret ?_
    exact RunE.retP (.r2 rfl (.tmp rfl) (.tmp rfl)) (by simp)
  | true =>
    have h0 : cntX m.pl = 0 := by
      by_cases h : cntX m.pl = 0
      · exact h
      · exact absurd (show waysE m.pl = 0 by unfold waysE; rw [if_pos hX, if_neg h]) hw
    have e : waysE m.pl = 4 := by unfold waysE; rw [if_pos hX, if_pos h0]
    rw [e]
    have hcn : cntX m.pl = (waysL (esX m).length (fsX m.pl) 0).length := cnt_ways _ _ _
    refine calls_start Tryd.func56 rfl rfl ?_
    refine RunC.seq ?_
    refine RunC.region ?_
    refine RunL.new (New.box rfl) rfl rfl rfl (fun b1 => ?_)
    refine RunL.val (Val.pure rfl) rfl rfl rfl ?_
    refine RunL.val (Val.pure rfl) rfl rfl rfl ?_
    refine RunL.nil ?_
    refine RunE.next ?_
    refine RunC.seq ?_
    refine RunC.region ?_
    refine RunL.val (Val.load_agg rfl (.head _) ty_25 rfl) rfl rfl rfl ?_
    refine RunL.callP (isCall_func rfl ent_41) rfl rfl rfl (fun w hm => (by have h9 := rcheck_calls m hsm true w (hM.mono0 hm); rw [hX] at h9; exact h9)) ?_
    refine RunL.val (Val.pure rfl) rfl rfl rfl ?_
    refine RunL.nil ?_
    refine RunE.next ?_
    refine RunC.seq ?_
    refine RunC.seq ?_
    refine RunC.region ?_
    refine RunL.val (Val.pure rfl) rfl rfl rfl ?_
    refine RunL.val (Val.pure rfl) rfl rfl rfl ?_
    refine RunL.nil ?_
    refine RunE.next ?_
    refine RunC.cond rfl (fun h => absurd h (by simp)) ?_
    intro c0
    clear c0
    refine RunC.skip ?_
    refine RunE.next ?_
    refine RunC.seq ?_
    refine RunC.region ?_
    refine RunL.val (Val.load_agg rfl (.head _) ty_25 rfl) rfl rfl rfl ?_
    refine RunL.callNT (isCall_func rfl ent_52) rfl rfl rfl (fun w hm => rWays_calls m hsm hX (hc4 hX) _ rfl w (hM.mono0 hm)) (fun z12 => ?_)
    obtain ⟨⟨x12, L12⟩, hG12⟩ := z12
    have hlen := hG12.len
    dsimp only at hlen ⊢
    refine RunL.val (Val.pure rfl) rfl rfl rfl ?_
    refine RunL.nil ?_
    refine RunE.next ?_
    refine RunC.seq ?_
    refine RunC.seq ?_
    refine RunC.region ?_
    refine RunL.val (Val.pure rfl) rfl rfl rfl ?_
    refine RunL.val (Val.len_sl rfl sl_86) rfl rfl rfl ?_
    refine RunL.val (Val.pure rfl) rfl rfl rfl ?_
    refine RunL.nil ?_
    refine RunE.next ?_
    refine RunC.cond rfl ?_ (fun h => absurd h (by rw [hlen, ← hcn, h0]; decide))
    intro c1
    clear c1
    refine RunC.seq ?_
    refine RunC.region ?_
    refine RunL.val (Val.pure rfl) rfl rfl rfl ?_
    refine RunL.val (Val.pure rfl) rfl rfl rfl ?_
    refine RunL.nil ?_
    refine RunE.next ?_
    refine RunC.ret ?_
    refine RunE.pass_ret ?_
    exact RunE.retP (.r2 rfl (.tmp rfl) (.tmp rfl)) (by simp)
theorem ropen_ok (m : MxA) (hsm : MSm m) (hc4 : m.cards.length ≤ 4) (hw : waysE m.pl = 0) (base : List (List Nat)) (hb : waysL (esX m).length (fsX m.pl) 0 = base) (W : World) (hM : MOk W m) : Calls Tryd.prog 56 #[m.v] W
    (News (fun z : WO base => .tuple #[.slice (ownQ z.1.1) z.1.2.length (ownC z.1.1), .int .i64 0]) (fun z => ownB 34 z.1.1 (wRows z.1.2) ++ (wR z.1.2 ++ [])) W) := by
  obtain ⟨hX, h0⟩ := ways_ok hw
  have hcn : cntX m.pl = (waysL (esX m).length (fsX m.pl) 0).length := cnt_ways _ _ _
  rw [hb] at hcn
  refine calls_start Tryd.func56 rfl rfl ?_
  refine RunC.seq ?_
  refine RunC.region ?_
  refine RunL.new (New.box rfl) rfl rfl rfl (fun b1 => ?_)
  refine RunL.val (Val.pure rfl) rfl rfl rfl ?_
  refine RunL.val (Val.pure rfl) rfl rfl rfl ?_
  refine RunL.nil ?_
  refine RunE.next ?_
  refine RunC.seq ?_
  refine RunC.region ?_
  refine RunL.val (Val.load_agg rfl (.head _) ty_25 rfl) rfl rfl rfl ?_
  refine RunL.callP (isCall_func rfl ent_41) rfl rfl rfl (fun w hm => (by have h9 := rcheck_calls m hsm true w (hM.mono0 hm); rw [hX] at h9; exact h9)) ?_
  refine RunL.val (Val.pure rfl) rfl rfl rfl ?_
  refine RunL.nil ?_
  refine RunE.next ?_
  refine RunC.seq ?_
  refine RunC.seq ?_
  refine RunC.region ?_
  refine RunL.val (Val.pure rfl) rfl rfl rfl ?_
  refine RunL.val (Val.pure rfl) rfl rfl rfl ?_
  refine RunL.nil ?_
  refine RunE.next ?_
  refine RunC.cond rfl (fun h => absurd h (by simp)) ?_
  intro c0
  clear c0
  refine RunC.skip ?_
  refine RunE.next ?_
  refine RunC.seq ?_
  refine RunC.region ?_
  refine RunL.val (Val.load_agg rfl (.head _) ty_25 rfl) rfl rfl rfl ?_
  refine RunL.callNT (isCall_func rfl ent_52) rfl rfl rfl (fun w hm => rWays_calls m hsm hX hc4 base hb w (hM.mono0 hm)) (fun z12 => ?_)
  obtain ⟨⟨x12, L12⟩, hG12⟩ := z12
  have hlen := hG12.len
  dsimp only at hlen ⊢
  refine RunL.val (Val.pure rfl) rfl rfl rfl ?_
  refine RunL.nil ?_
  refine RunE.next ?_
  refine RunC.seq ?_
  refine RunC.seq ?_
  refine RunC.region ?_
  refine RunL.val (Val.pure rfl) rfl rfl rfl ?_
  refine RunL.val (Val.len_sl rfl sl_86) rfl rfl rfl ?_
  refine RunL.val (Val.pure rfl) rfl rfl rfl ?_
  refine RunL.nil ?_
  refine RunE.next ?_
  refine RunC.cond rfl (fun h => absurd h (by simp; intro h; subst h; simp at hlen; omega)) ?_
  intro c1
  clear c1
  refine RunC.skip ?_
  refine RunE.next ?_
  refine RunC.seq ?_
  refine RunC.region ?_
  iterate 3 refine RunL.val (Val.pure rfl) rfl rfl rfl ?_
  refine RunL.nil ?_
  refine RunE.next ?_
  refine RunC.ret ?_
  exact RunE.ret (chg := []) (.r2 rfl (.tmp rfl) (.tmp rfl)) (fun _ hm => ⟨⟨(x12, L12), hG12⟩, rfl, hm.pick (Pick.skip (Pick.refl _))⟩)
theorem rFirst_any (m : MxA) (hsm : MSm m) (hc4 : mixedX m.pl = true → m.cards.length ≤ 4) (W : World) (hM : MOk W m) : Calls Tryd.prog 24 #[m.v] W
    (News (fun z : IO (FirstX m.pl).1 => .tuple #[.slice (ownQ z.1) (FirstX m.pl).1.length (ownC z.1), .int .i64 (FirstX m.pl).2]) (fun z => ownB 3 z.1 (intsW (FirstX m.pl).1).flatten ++ []) W) := by
  by_cases hw : waysE m.pl = 0
  · obtain ⟨hX, h0⟩ := ways_ok hw
    obtain ⟨base, hbase⟩ : ∃ base, waysL (esX m).length (fsX m.pl) 0 = base := ⟨_, rfl⟩
    have hcn : cntX m.pl = (waysL (esX m).length (fsX m.pl) 0).length := cnt_ways _ _ _
    rw [hbase] at hcn
    have h0b : 0 < base.length := by omega
    have hhd : base[0] = firstL (esX m).length (fsX m.pl) 0 := by
      have h9 := first_head (esX m).length (fsX m.pl) 0 (Nat.pos_of_ne_zero h0)
      rw [hbase, List.head?_eq_getElem?, List.getElem?_eq_getElem h0b] at h9
      exact Option.some.inj h9
    have e : FirstX m.pl = (natI (firstL (esX m).length (fsX m.pl) 0), 0) := by unfold FirstX; rw [if_pos hw]; rfl
    rw [e]
    refine calls_start Tryd.func24 rfl rfl ?_
    refine RunC.seq ?_
    refine RunC.region ?_
    refine RunL.new (New.box rfl) rfl rfl rfl (fun b1 => ?_)
    refine RunL.val (Val.pure rfl) rfl rfl rfl ?_
    refine RunL.val (Val.pure rfl) rfl rfl rfl ?_
    refine RunL.nil ?_
    refine RunE.next ?_
    refine RunC.seq ?_
    refine RunC.region ?_
    refine RunL.val (Val.load_agg rfl (.head _) ty_25 rfl) rfl rfl rfl ?_
    refine RunL.callNT (isCall_func rfl ent_56) rfl rfl rfl (fun w hm => ropen_ok m hsm (hc4 hX) hw base hbase w (hM.mono0 hm)) (fun z8 => ?_)
    obtain ⟨⟨x8, L8⟩, hG8⟩ := z8
    have hlen := hG8.len
    have hx8 := hG8.ok
    dsimp only at hlen hx8 ⊢
    iterate 5 refine RunL.val (Val.pure rfl) rfl rfl rfl ?_
    refine RunL.nil ?_
    refine RunE.next ?_
    refine RunC.seq ?_
    refine RunC.seq ?_
    refine RunC.region ?_
    refine RunL.val (Val.pure rfl) rfl rfl rfl ?_
    refine RunL.val (Val.pure rfl) rfl rfl rfl ?_
    refine RunL.nil ?_
    refine RunE.next ?_
    refine RunC.cond rfl (fun h => absurd h (by simp)) ?_
    intro c0
    clear c0
    refine RunC.skip ?_
    refine RunE.next ?_
    refine RunC.seq ?_
    refine RunC.region ?_
    obtain ⟨B, hBm, hk2, hBk, hBl⟩ := hG8.at h0b
    dsimp only at hBm hk2 hBk
    have hBo := hG8.each B hBm
    refine RunL.val (Val.pure rfl) rfl rfl rfl ?_
    obtain ⟨bx8, cx8, rx8, rfl, lx81, lx82, lx83⟩ := hx8.has (by omega)
    refine RunL.val (Val.indexAddr_slp rfl rfl sl_86 (by decide) (by omega) rfl) rfl rfl rfl ?_
    refine RunL.val (Val.load_gen rfl (fun w hm => (Sl.rowsR (xs := L8.reverse.map WB.cells) (t := rx8) (hm.at (.tail _ (.head _))) (w_row L8)).loadM1 (i := 0) (by decide) (Mem.refl w) (by simp) ty_34 hk2 (v := .slice (ownQ B.x) B.l.length (ownC B.x)) (by rw [hBk]; rfl))) rfl rfl rfl ?_
    refine RunL.val (Val.pure rfl) rfl rfl rfl ?_
    refine RunL.val (Val.pure rfl) rfl rfl rfl ?_
    refine RunL.nil ?_
    refine RunE.next ?_
    refine RunC.ret ?_
    exact RunE.ret (chg := []) (.r2 rfl (.tmp rfl) (.tmp rfl)) (fun _ hm => ⟨⟨B.x, by rw [natI_len, ← hhd, ← hBl]; exact hBo⟩, by (show Ending.returned (.tuple #[.slice (ownQ B.x) B.l.length (ownC B.x), .int .i64 0]) = Ending.returned (.tuple #[.slice (ownQ B.x) (natI (firstL (esX m).length (fsX m.pl) 0)).length (ownC B.x), .int .i64 0]); rw [natI_len, ← hhd, ← hBl]), hm.pick (Pick.cnt fun x => by have h9 := wR_cnt hBm x; rw [hBl, hhd] at h9; simp only [List.append_eq, List.nil_append, List.cons_append, List.count_append, List.count_cons, List.count_nil]; omega)⟩)
  · have e : FirstX m.pl = ([], waysE m.pl) := by unfold FirstX; rw [if_neg hw]
    rw [e]
    refine calls_mono (R := Pure (.tuple #[.slice none 0 0, .int .i64 (waysE m.pl)]) W) ?_ (fun ed w' h => by obtain ⟨rfl, hm⟩ := h; exact ⟨⟨none, OwnOk.start⟩, rfl, hm⟩)
    refine calls_start Tryd.func24 rfl rfl ?_
    refine RunC.seq ?_
    refine RunC.region ?_
    refine RunL.new (New.box rfl) rfl rfl rfl (fun b1 => ?_)
    refine RunL.val (Val.pure rfl) rfl rfl rfl ?_
    refine RunL.val (Val.pure rfl) rfl rfl rfl ?_
    refine RunL.nil ?_
    refine RunE.next ?_
    refine RunC.seq ?_
    refine RunC.region ?_
    refine RunL.val (Val.load_agg rfl (.head _) ty_25 rfl) rfl rfl rfl ?_
    refine RunL.callP (isCall_func rfl ent_56) rfl rfl rfl (fun w hm => ropen_err m hsm hc4 hw w (hM.mono0 hm)) ?_
    iterate 5 refine RunL.val (Val.pure rfl) rfl rfl rfl ?_
    refine RunL.nil ?_
    refine RunE.next ?_
    refine RunC.seq ?_
    refine RunC.seq ?_
    refine RunC.region ?_
    refine RunL.val (Val.pure rfl) rfl rfl rfl ?_
    refine RunL.val (Val.pure rfl) rfl rfl rfl ?_
    refine RunL.nil ?_
    refine RunE.next ?_
    refine RunC.cond rfl ?_ (fun h => absurd h (by simpa using hw))
    intro c0
    clear c0
    refine RunC.seq ?_
    refine RunC.region ?_
    iterate 3 refine RunL.val (Val.pure rfl) rfl rfl rfl ?_
    refine RunL.nil ?_
    refine RunE.next ?_
    refine RunC.ret ?_
    refine RunE.pass_ret ?_
    exact RunE.retP (.r2 rfl (.tmp rfl) (.tmp rfl)) rfl
theorem rSure_any (m : MxA) (hsm : MSm m) (hc4 : mixedX m.pl = true → m.cards.length ≤ 4) (W : World) (hM : MOk W m) : Calls Tryd.prog 26 #[m.v] W
    (News (fun z : IO (SureX m.pl).1 => .tuple #[.slice (ownQ z.1) (SureX m.pl).1.length (ownC z.1), .int .i64 (SureX m.pl).2]) (fun z => ownB 3 z.1 (intsW (SureX m.pl).1).flatten ++ []) W) := by
  by_cases hw : waysE m.pl = 0
  · obtain ⟨hX, h0⟩ := ways_ok hw
    obtain ⟨base, hbase⟩ : ∃ base, waysL (esX m).length (fsX m.pl) 0 = base := ⟨_, rfl⟩
    have hcn : cntX m.pl = (waysL (esX m).length (fsX m.pl) 0).length := cnt_ways _ _ _
    have hwl := waysO_len (m := m)
    obtain ⟨h4, h8, h12⟩ := mixed_ok hX
    have hbl := ways_bd h12 (show (fsX m.pl).length ≤ 4 by rw [fs_len]; exact hc4 hX) 0
    rw [hbase] at hcn hwl hbl
    have h0b : 0 < base.length := by omega
    have hcl := hwl _ (List.getElem_mem h0b)
    have h00 := outL_0 (base := base) (n := m.cards.length) (by rw [getD_lt h0b]; exact hcl)
    rw [getD_lt h0b] at h00
    have hfin := outL_sure hbase h0b
    have e : SureX m.pl = ((List.range m.cards.length).map (sureC m.pl), 0) := by unfold SureX; rw [if_pos hw]; rfl
    rw [e]
    have hrl : ((List.range m.cards.length).map (sureC m.pl)).length = m.cards.length := by simp
    refine calls_start Tryd.func26 rfl rfl ?_
    refine RunC.seq ?_
    refine RunC.region ?_
    refine RunL.new (New.box rfl) rfl rfl rfl (fun b1 => ?_)
    refine RunL.val (Val.pure rfl) rfl rfl rfl ?_
    refine RunL.val (Val.pure rfl) rfl rfl rfl ?_
    refine RunL.nil ?_
    refine RunE.next ?_
    refine RunC.seq ?_
    refine RunC.region ?_
    refine RunL.val (Val.load_agg rfl (.head _) ty_25 rfl) rfl rfl rfl ?_
    refine RunL.callNT (isCall_func rfl ent_56) rfl rfl rfl (fun w hm => ropen_ok m hsm (hc4 hX) hw base hbase w (hM.mono0 hm)) (fun z11 => ?_)
    obtain ⟨⟨x11, L11⟩, hG11⟩ := z11
    have hlen := hG11.len
    have hx11 := hG11.ok
    dsimp only at hlen hx11 ⊢
    iterate 5 refine RunL.val (Val.pure rfl) rfl rfl rfl ?_
    refine RunL.nil ?_
    refine RunE.next ?_
    refine RunC.seq ?_
    refine RunC.seq ?_
    refine RunC.region ?_
    refine RunL.val (Val.pure rfl) rfl rfl rfl ?_
    refine RunL.val (Val.pure rfl) rfl rfl rfl ?_
    refine RunL.nil ?_
    refine RunE.next ?_
    refine RunC.cond rfl (fun h => absurd h (by simp)) ?_
    intro c0
    clear c0
    refine RunC.skip ?_
    refine RunE.next ?_
    refine RunC.seq ?_
    refine RunC.region ?_
    refine RunL.new (New.buildSlice0 sl_34) rfl rfl rfl (fun b17 => ?_)
    obtain ⟨B0, hB0m, hk02, hB0k, hB0l⟩ := hG11.at h0b
    dsimp only at hB0m hk02 hB0k
    have hB0o := hG11.each B0 hB0m
    have hB0c : B0.l.length = m.cards.length := by (rw [hB0l]; exact hcl)
    refine RunL.val (Val.pure rfl) rfl rfl rfl ?_
    obtain ⟨bx11, cx11, rx11, rfl, lx111, lx112, lx113⟩ := hx11.has (by omega)
    refine RunL.val (Val.indexAddr_slp rfl rfl sl_86 (by decide) (by omega) rfl) rfl rfl rfl ?_
    refine RunL.val (Val.load_gen rfl (fun w hm => (Sl.rowsR (xs := L11.reverse.map WB.cells) (t := rx11) (hm.at (.tail _ (.tail _ (.head _)))) (w_row L11)).loadM1 (i := 0) (by decide) (Mem.refl w) (by simp) ty_34 hk02 (v := .slice (ownQ B0.x) B0.l.length (ownC B0.x)) (by rw [hB0k]; rfl))) rfl rfl rfl ?_
    refine RunL.keep (Sub.refl _) (.cons (.there .here) rfl (.cons (.there .here) rfl (.cons .here rfl (Pick.refl _)))) ?_
    refine RunL.append (A := [(b1, _), (bx11, _)]) (B := _) (x := (some (b17, 0, []))) (ys := (intsW (natI B0.l)).flatten) ap_34 rfl rfl rfl OwnOk.empty (by rw [ints_fl, natI_len]) (own_nilQ hB0o) (fun w hm => (ints_sl (l := natI B0.l) (by rw [natI_len]; exact hB0o) (fun b o h0 => by have h := wR_mem hB0m h0; exact hm.at (.tail _ (.tail _ (.tail _ ((by first | exact List.mem_append_left _ h | exact List.mem_append_right _ (List.mem_append_left _ h)))))))).flat (by decide)) (one_flat (f := fun a : Int => [Value.int .i64 a]) (fun _ => rfl) (natI B0.l)) (by simp only [maxLen]; omega) (by omega) rfl (fun z21 hz21 => ?_)
    refine RunL.val (Val.pure rfl) rfl rfl rfl ?_
    refine RunL.nil ?_
    refine RunE.next ?_
    refine RunC.seq ?_
    refine RunC.seq ?_
    refine RunC.region ?_
    refine RunL.val (Val.pure rfl) rfl rfl rfl ?_
    refine RunL.nil ?_
    refine RunE.next ?_
    refine RunC.block ?_
    have hz21n : OwnOk 1 z21 m.cards.length (intsW (natI base[0])).flatten := by (rw [← hB0l]; have h9 := hz21; rw [Nat.zero_add, List.nil_append, hB0c] at h9; exact h9)
    refine RunC.loopX (X := Eng.Own) (n0 := [(b1, _), (bx11, _)]) (base.length) (fun k x q => (7, .int .i64 (k : Int)) :: (6, ownV x m.cards.length) :: q) (fun _ _ => _) (fun k x => []) (fun k x => ownB 3 x (intsW (outL m.cards.length base k 0)).flatten ++ (wR L11 ++ [])) (fun k x => OwnOk 1 x m.cards.length (intsW (outL m.cards.length base k 0)).flatten) z21 (by rw [h00]; exact hz21n) rfl (Sub.consE (t := 7) rfl rfl (Sub.consE (t := 6) rfl (by rw [Nat.zero_add, hB0c]) (Sub.cons (t := 1) rfl (Sub.cons (t := 4) rfl (Sub.nil _))))) (.cons .here rfl (.cons .here rfl (Pick.same (by rw [h00, hB0l]; rfl)))) ?_
    intro k x kN kI
    have hx1 := kI
    refine RunC.seq ?_
    refine RunC.seq ?_
    refine RunC.region ?_
    refine RunL.val (Val.pure rfl) rfl rfl rfl ?_
    refine RunL.val (Val.pure rfl) rfl rfl rfl ?_
    refine RunL.val (Val.len_sl rfl sl_86) rfl rfl rfl ?_
    refine RunL.val (Val.pure rfl) rfl rfl rfl ?_
    refine RunL.nil ?_
    refine RunE.next ?_
    refine RunC.cond rfl ?_ ?_
    · intro c1
      have c1' := c1; clear c1
      try simp only [decide_eq_true_eq, decide_eq_false_iff_not, Bool.not_eq_true', Bool.not_eq_false', Bool.and_eq_true, Bool.or_eq_true, Bool.and_eq_false_iff, Bool.or_eq_false_iff, Int.not_le, Int.not_lt] at c1'
      have hk : k < base.length := by omega
      obtain ⟨B, hBm, hk2, hBk, hBl⟩ := hG11.at hk
      dsimp only at hBm hk2 hBk
      have hBo := hG11.each B hBm
      have hBc : B.l.length = m.cards.length := by (rw [hBl]; exact hwl _ (List.getElem_mem hk))
      refine RunC.skip ?_
      refine RunE.next ?_
      refine RunC.seq ?_
      refine RunC.block ?_
      refine RunC.seq ?_
      refine RunC.region ?_
      refine RunL.val (Val.pure rfl) rfl rfl rfl ?_
      refine RunL.nil ?_
      refine RunE.next ?_
      refine RunC.block ?_
      refine RunC.loopX (X := Eng.Own) (n0 := [(b1, _), (bx11, _)]) (m.cards.length) (fun j y q => (8, .int .i64 (j : Int)) :: (6, ownV y m.cards.length) :: q) (fun _ _ => _) (fun j y => []) (fun j y => ownB 3 y (intsW (outL m.cards.length base k j)).flatten ++ (wR L11 ++ [])) (fun j y => OwnOk 1 y m.cards.length (intsW (outL m.cards.length base k j)).flatten) x hx1 rfl (Sub.consE (t := 8) rfl rfl (Sub.consE (t := 6) rfl rfl (Sub.cons (t := 1) rfl (Sub.cons (t := 4) rfl (Sub.cons (t := 7) rfl (Sub.nil _)))))) (.cons .here rfl (.cons .here rfl (Pick.same rfl))) ?_
      intro j y jN jI
      have hx1 := jI
      refine RunC.seq ?_
      refine RunC.seq ?_
      refine RunC.region ?_
      refine RunL.val (Val.pure rfl) rfl rfl rfl ?_
      refine RunL.val (Val.pure rfl) rfl rfl rfl ?_
      refine RunL.val (Val.len_own rfl sl_34 hx1) rfl rfl rfl ?_
      refine RunL.val (Val.pure rfl) rfl rfl rfl ?_
      refine RunL.nil ?_
      refine RunE.next ?_
      refine RunC.cond rfl ?_ ?_
      · intro c2
        have c2' := c2; clear c2
        try simp only [decide_eq_true_eq, decide_eq_false_iff_not, Bool.not_eq_true', Bool.not_eq_false', Bool.and_eq_true, Bool.or_eq_true, Bool.and_eq_false_iff, Bool.or_eq_false_iff, Int.not_le, Int.not_lt] at c2'
        have hj : j < m.cards.length := by omega
        obtain ⟨y, hy⟩ : ∃ y, B.l[j]'(by omega) = y := ⟨_, rfl⟩
        have hjo : j < (outL m.cards.length base k j).length := by (rw [outL_len]; exact hj)
        obtain ⟨v, hv⟩ : ∃ v, sI base k j = v := ⟨_, rfl⟩
        have hov : (outL m.cards.length base k j)[j] = v := by (rw [outL_at, if_neg (by omega), hv])
        have hsi := sI_s (k := j) hk hBl.symm
        rw [getD_in (by omega) hy, hv] at hsi
        refine RunC.skip ?_
        refine RunE.next ?_
        refine RunC.seq ?_
        refine RunC.block ?_
        refine RunC.seq ?_
        obtain ⟨bx1, cx1, rx1, rfl, lx11, lx12, lx13⟩ := hx1.has (by omega)
        refine RunC.draw 11 fol_ (.cons .here rfl (.cons .here rfl (.cons .here rfl (Pick.refl _)))) ?_
        refine RunA.val (i := 0) rfl (by kernel_rfl) (by kernel_rfl) (Val.pure rfl) rfl rfl rfl (fun _ _ _ h => h) (.cons .here rfl (.cons .here rfl (.cons .here rfl (Pick.refl _)))) rfl ?_
        refine RunA.val (i := 1) rfl (by kernel_rfl) (by kernel_rfl) (Val.pure rfl) rfl rfl rfl (fun _ _ _ h => h) (.cons .here rfl (.cons .here rfl (.cons .here rfl (Pick.refl _)))) rfl ?_
        refine RunA.val (i := 2) rfl (by kernel_rfl) (by kernel_rfl) (Val.indexAddr_slp rfl rfl sl_86 (by omega) (by omega) rfl) rfl rfl rfl (fun _ _ _ h => h) (.cons .here rfl (.cons .here rfl (.cons .here rfl (Pick.refl _)))) rfl ?_
        refine RunA.val (i := 3) rfl (by kernel_rfl) (by kernel_rfl) (Val.load_gen rfl (fun w hm => (Sl.rowsR (xs := L11.reverse.map WB.cells) (t := rx11) (hm.at (.tail _ (.head _))) (w_row L11)).loadM1 (by decide) (Mem.refl w) (by simp) ty_34 hk2 (v := .slice (ownQ B.x) B.l.length (ownC B.x)) (by rw [hBk]; rfl))) rfl rfl rfl (fun _ _ _ h => h) (.cons .here rfl (.cons .here rfl (.cons .here rfl (Pick.refl _)))) rfl ?_
        refine RunA.val (i := 4) rfl (by kernel_rfl) (by kernel_rfl) (Val.pure rfl) rfl rfl rfl (fun _ _ _ h => h) (.cons .here rfl (.cons .here rfl (.cons .here rfl (Pick.refl _)))) rfl ?_
        refine RunA.val (i := 5) rfl (by kernel_rfl) (by kernel_rfl) (Val.indexAddr_slp rfl rfl sl_34 (by omega) (by omega) (own_ptr hBo (by omega))) rfl rfl rfl (fun _ _ _ h => h) (.cons .here rfl (.cons .here rfl (.cons .here rfl (Pick.refl _)))) rfl ?_
        refine RunA.val (i := 6) rfl (by kernel_rfl) (by kernel_rfl) (Val.load_gen rfl (fun w hm => (ints_sl (l := natI B.l) (by rw [natI_len]; exact hBo) (fun b o h0 => by have h := wR_mem hBm h0; exact hm.at (.tail _ (.tail _ (.tail _ ((by first | exact List.mem_append_left _ h | exact List.mem_append_right _ (List.mem_append_left _ h)))))))).loadM1 (by decide) (Mem.refl w) (by simp) ty_3 (by rw [natI_len]; omega) (v := .int .i64 (y : Int)) (by simp [natI, hy]))) rfl rfl rfl (fun _ _ _ h => h) (.cons .here rfl (.cons .here rfl (.cons .here rfl (Pick.refl _)))) rfl ?_
        refine RunA.val (i := 7) rfl (by kernel_rfl) (by kernel_rfl) (Val.pure rfl) rfl rfl rfl (fun _ _ _ h => h) (.cons .here rfl (.cons .here rfl (.cons .here rfl (Pick.refl _)))) rfl ?_
        refine RunA.val (i := 8) rfl (by kernel_rfl) (by kernel_rfl) (Val.pure rfl) rfl rfl rfl (fun _ _ _ h => h) (.cons .here rfl (.cons .here rfl (.cons .here rfl (Pick.refl _)))) rfl ?_
        refine RunA.val (i := 9) rfl (by kernel_rfl) (by kernel_rfl) (Val.indexAddr_sl rfl rfl sl_34 (by omega) (by omega)) rfl rfl rfl (fun _ _ _ h => h) (.cons .here rfl (.cons .here rfl (.cons .here rfl (Pick.refl _)))) rfl ?_
        refine RunA.val (i := 10) rfl (by kernel_rfl) (by kernel_rfl) (Val.load_gen rfl (fun w hm => (Sl.rowsR (xs := intsW (outL m.cards.length base k j)) (t := rx1) (hm.at (.tail _ (.tail _ (.head _)))) (ints_row _)).loadM1 (by decide) (Mem.refl w) (by simp) ty_3 hjo (v := .int .i64 v) (by simp [hov]))) rfl rfl rfl (fun _ _ _ h => h) (.cons .here rfl (.cons .here rfl (.cons .here rfl (Pick.refl _)))) rfl ?_
        refine RunA.toB (by kernel_rfl) ?_
        refine RunB.one (i := 11) (by kernel_rfl) ?_
        refine RunI.val rfl (Val.pure rfl) rfl rfl rfl (RunK.toB ?_)
        refine RunB.done (by kernel_rfl) ?_
        refine RunE.next ?_
        refine RunC.cond rfl ?_ ?_
        · intro c3
          have c3' := c3; clear c3
          try simp only [decide_eq_true_eq, decide_eq_false_iff_not, Bool.not_eq_true', Bool.not_eq_false', Bool.and_eq_true, Bool.or_eq_true, Bool.and_eq_false_iff, Bool.or_eq_false_iff, Int.not_le, Int.not_lt] at c3'
          have hset := outL_set (n := m.cards.length) (i := k) hj (hsi.trans (if_neg (by simpa using c3')))
          refine RunC.region ?_
          refine RunL.val (Val.pure rfl) rfl rfl rfl ?_
          refine RunL.val (Val.pure rfl) rfl rfl rfl ?_
          refine RunL.val (Val.indexAddr_sl rfl rfl sl_34 (by omega) (by omega)) rfl rfl rfl ?_
          refine RunL.sto (Sto.store (cs := (intsW (outL m.cards.length base k j)).flatten ++ rx1) (cs' := (intsW ((outL m.cards.length base k j).set j (-1))).flatten ++ rx1) rfl rfl (.there (.there .here)) ty_3 rfl (by rw [Nat.zero_add, Int.toNat_natCast, Nat.mul_one]; have h9 := paste_setI (v := -1) hjo; exact paste_app h9)) rfl rfl ?_
          refine RunL.nil ?_
          refine RunE.block_normal ?_
          refine RunE.next ?_
          refine RunC.region ?_
          refine RunL.val (Val.pure rfl) rfl rfl rfl ?_
          refine RunL.val (Val.add rfl rfl (IntWalk.i64_in _ ⟨by omega, by omega⟩)) rfl rfl rfl ?_
          refine RunL.val (Val.pure rfl) rfl rfl rfl ?_
          refine RunL.nil ?_
          exact RunE.roundX (some (bx1, cx1, rx1)) (by omega) (by rw [← hset]; exact own_put hx1 (by rw [ints_fl, ints_fl, List.length_set])) rfl (Sub.consE (t := 8) rfl rfl (Sub.consE (t := 6) rfl rfl (Sub.cons (t := 1) rfl (Sub.cons (t := 4) rfl (Sub.cons (t := 7) rfl (Sub.nil _)))))) (.cons .here rfl (.cons .here rfl (.cons .here (by rw [hset]) (Pick.refl _))))
        · intro c3
          have c3' := c3; clear c3
          try simp only [decide_eq_true_eq, decide_eq_false_iff_not, Bool.not_eq_true', Bool.not_eq_false', Bool.and_eq_true, Bool.or_eq_true, Bool.and_eq_false_iff, Bool.or_eq_false_iff, Int.not_le, Int.not_lt] at c3'
          have hset := outL_same (n := m.cards.length) (i := k) hj ((hsi.trans (if_pos (by simpa using c3'))).trans hv.symm)
          refine RunC.skip ?_
          refine RunE.block_normal ?_
          refine RunE.next ?_
          refine RunC.region ?_
          refine RunL.val (Val.pure rfl) rfl rfl rfl ?_
          refine RunL.val (Val.add rfl rfl (IntWalk.i64_in _ ⟨by omega, by omega⟩)) rfl rfl rfl ?_
          refine RunL.val (Val.pure rfl) rfl rfl rfl ?_
          refine RunL.nil ?_
          exact RunE.roundX (some (bx1, cx1, rx1)) (by omega) (by rw [hset]; exact hx1) rfl (Sub.consE (t := 8) rfl rfl (Sub.consE (t := 6) rfl rfl (Sub.cons (t := 1) rfl (Sub.cons (t := 4) rfl (Sub.cons (t := 7) rfl (Sub.nil _)))))) (.cons .here rfl (.cons .here rfl (.cons .here (by rw [hset]) (Pick.refl _))))
      · intro c2
        have c2' := c2; clear c2
        try simp only [decide_eq_true_eq, decide_eq_false_iff_not, Bool.not_eq_true', Bool.not_eq_false', Bool.and_eq_true, Bool.or_eq_true, Bool.and_eq_false_iff, Bool.or_eq_false_iff, Int.not_le, Int.not_lt] at c2'
        obtain rfl : j = m.cards.length := by omega
        refine RunC.exit ?_
        refine RunE.pass_exit ?_
        refine RunE.pass_exit ?_
        refine RunE.block_here ?_
        refine RunE.block_normal ?_
        refine RunE.next ?_
        refine RunC.region ?_
        refine RunL.val (Val.pure rfl) rfl rfl rfl ?_
        refine RunL.val (Val.add rfl rfl (IntWalk.i64_in _ ⟨by omega, by omega⟩)) rfl rfl rfl ?_
        refine RunL.val (Val.pure rfl) rfl rfl rfl ?_
        refine RunL.nil ?_
        exact RunE.roundX y (by omega) (by rw [← outL_next]; exact hx1) rfl (Sub.consE (t := 7) rfl rfl (Sub.consE (t := 6) rfl rfl (Sub.cons (t := 1) rfl (Sub.cons (t := 4) rfl (Sub.nil _))))) (.cons .here rfl (.cons .here rfl (Pick.same (by rw [outL_next]))))
    · intro c1
      have c1' := c1; clear c1
      try simp only [decide_eq_true_eq, decide_eq_false_iff_not, Bool.not_eq_true', Bool.not_eq_false', Bool.and_eq_true, Bool.or_eq_true, Bool.and_eq_false_iff, Bool.or_eq_false_iff, Int.not_le, Int.not_lt] at c1'
      obtain rfl : k = base.length := by omega
      refine RunC.exit ?_
      refine RunE.pass_exit ?_
      refine RunE.pass_exit ?_
      refine RunE.block_here ?_
      refine RunE.next ?_
      refine RunC.seq ?_
      refine RunC.region ?_
      iterate 3 refine RunL.val (Val.pure rfl) rfl rfl rfl ?_
      refine RunL.nil ?_
      refine RunE.next ?_
      refine RunC.ret ?_
      exact RunE.ret (chg := []) (.r2 rfl (.tmp rfl) (.tmp rfl)) (fun _ hm => ⟨⟨x, by rw [hrl, ← hfin]; exact hx1⟩, (by (show Ending.returned (.tuple #[ownV x m.cards.length, .int .i64 0]) = Ending.returned (.tuple #[.slice (ownQ x) ((List.range m.cards.length).map (sureC m.pl)).length (ownC x), .int .i64 0]); rw [hrl, ownV_slice hx1])), hm.pick (Pick.cnt fun x => by simp only [hfin, List.append_eq, List.nil_append, List.cons_append, List.count_append, List.count_cons, List.count_nil]; omega)⟩)
  · have e : SureX m.pl = ([], waysE m.pl) := by unfold SureX; rw [if_neg hw]
    rw [e]
    refine calls_mono (R := Pure (.tuple #[.slice none 0 0, .int .i64 (waysE m.pl)]) W) ?_ (fun ed w' h => by obtain ⟨rfl, hm⟩ := h; exact ⟨⟨none, OwnOk.start⟩, rfl, hm⟩)
    refine calls_start Tryd.func26 rfl rfl ?_
    refine RunC.seq ?_
    refine RunC.region ?_
    refine RunL.new (New.box rfl) rfl rfl rfl (fun b1 => ?_)
    refine RunL.val (Val.pure rfl) rfl rfl rfl ?_
    refine RunL.val (Val.pure rfl) rfl rfl rfl ?_
    refine RunL.nil ?_
    refine RunE.next ?_
    refine RunC.seq ?_
    refine RunC.region ?_
    refine RunL.val (Val.load_agg rfl (.head _) ty_25 rfl) rfl rfl rfl ?_
    refine RunL.callP (isCall_func rfl ent_56) rfl rfl rfl (fun w hm => ropen_err m hsm hc4 hw w (hM.mono0 hm)) ?_
    iterate 5 refine RunL.val (Val.pure rfl) rfl rfl rfl ?_
    refine RunL.nil ?_
    refine RunE.next ?_
    refine RunC.seq ?_
    refine RunC.seq ?_
    refine RunC.region ?_
    refine RunL.val (Val.pure rfl) rfl rfl rfl ?_
    refine RunL.val (Val.pure rfl) rfl rfl rfl ?_
    refine RunL.nil ?_
    refine RunE.next ?_
    refine RunC.cond rfl ?_ (fun h => absurd h (by simpa using hw))
    intro c0
    clear c0
    refine RunC.seq ?_
    refine RunC.region ?_
    iterate 3 refine RunL.val (Val.pure rfl) rfl rfl rfl ?_
    refine RunL.nil ?_
    refine RunE.next ?_
    refine RunC.ret ?_
    refine RunE.pass_ret ?_
    exact RunE.retP (.r2 rfl (.tmp rfl) (.tmp rfl)) rfl
end Go.Proofs.YtlhdalcipflblaaDoor
/- The facts on the tables of types and on the entries of functions that the walks use. Written by program. -/
set_option linter.unusedSimpArgs false
set_option linter.unusedVariables false
namespace Go.Proofs.YtlhdalcipflblaaDoor
open Go Go.Eng
theorem ent_18 : Enters Tryd.prog 18 := enters_of Tryd.func18 (by kernel_rfl) rfl
theorem ent_20 : Enters Tryd.prog 20 := enters_of Tryd.func20 (by kernel_rfl) rfl
theorem ent_22 : Enters Tryd.prog 22 := enters_of Tryd.func22 (by kernel_rfl) rfl
theorem ent_24 : Enters Tryd.prog 24 := enters_of Tryd.func24 (by kernel_rfl) rfl
theorem ent_26 : Enters Tryd.prog 26 := enters_of Tryd.func26 (by kernel_rfl) rfl
theorem ent_28 : Enters Tryd.prog 28 := enters_of Tryd.func28 (by kernel_rfl) rfl
end Go.Proofs.YtlhdalcipflblaaDoor
