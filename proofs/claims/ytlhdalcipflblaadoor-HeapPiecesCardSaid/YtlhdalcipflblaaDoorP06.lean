/- Layer 10, plain: which entries a card fits of which all, or some, can be read. -/
import Derived.Test.YtlhdalcipflblaaDoorP05
set_option linter.unusedSimpArgs false
set_option linter.unusedVariables false
namespace Go.Hp
open Go Go.Eng Go.Pw1 Go.Proofs.YtlhdalcipflblaaDoor
def plainP (p : Str) : Prop := ∀ c ∈ p, c.toNat ≠ 63 ∧ c.toNat ≠ 42
theorem plain_star : ∀ {p : Str}, plainP p → starAt p = none
  | [], _ => rfl
  | a :: p, h => by
    unfold starAt
    rw [if_neg (h a (by simp)).2, plain_star fun c hc => h c (List.mem_cons_of_mem _ hc)]
    rfl
theorem plain_W : ∀ {p s : Str}, plainP p → suitsW p s = decide (p = s)
  | [], [], _ => rfl
  | [], _ :: _, _ => by simp [suitsW]
  | _ :: _, [], _ => by simp [suitsW]
  | a :: p, c :: s, h => by
    unfold suitsW
    rw [plain_W fun c hc => h c (List.mem_cons_of_mem _ hc), decide_eq_false (h a (by simp)).1, Bool.false_or]
    by_cases h1 : a = c <;> by_cases h2 : p = s <;> simp [h1, h2]
theorem plain_X {p s : Str} (h : plainP p) : suitsX p s = decide (p = s) := by
  unfold suitsX
  rw [plain_star h]
  exact plain_W h
theorem letters_plain {p : Str} (h : p.all letterX = true) : plainP p := fun c hc => by
  have := List.all_eq_true.1 h c hc
  unfold letterX at this
  simp only [Bool.and_eq_true, decide_eq_true_eq] at this
  omega
theorem letters_good {p : Str} (h : p.all letterX = true) : p.all goodX = true := by
  rw [List.all_eq_true] at h ⊢
  intro c hc
  unfold goodX
  rw [h c hc]
  rfl
theorem plain_count {p : Str} (h : plainP p) : p.countP starX = 0 := by
  rw [List.countP_eq_zero]
  intro c hc
  unfold starX
  have := (h c hc).2
  simp
  omega
theorem itoa_good : ∀ n, n < 100 → plainP (itoa n) ∧ (itoa n).all goodX = true := by
  have h : (List.range 100).all (fun n => (itoa n).all fun c => goodX c && !decide (c.toNat = 63) && !decide (c.toNat = 42)) = true := by kernel_rfl
  intro n hn
  have h1 := List.all_eq_true.1 h n (List.mem_range.2 hn)
  rw [List.all_eq_true] at h1
  refine ⟨fun c hc => ?_, List.all_eq_true.2 fun c hc => ?_⟩
  · have := h1 c hc
    simp only [Bool.and_eq_true, Bool.not_eq_true', decide_eq_false_iff_not] at this
    exact ⟨this.1.2, this.2⟩
  · have := h1 c hc
    simp only [Bool.and_eq_true] at this
    exact this.1.1
structure EnOk (x : En) : Prop where
  col : 1 ≤ x.colour ∧ x.colour ≤ 9
  let_ : x.title.all letterX = true
  len : 1 ≤ x.title.length ∧ x.title.length ≤ 12
  num : plainP x.number ∧ x.number.all goodX = true ∧ x.number.length ≤ 2
theorem boxEn_idx {c : Int} : ∀ {l : List Str} {i : Nat} {x : En}, x ∈ boxEn c i l → x.colour = c ∧ x.title ∈ l ∧ ∃ k, k ≤ i + l.length ∧ x.number = itoa k
  | [], i, x, h => by cases h
  | t :: l, i, x, h => by
    rcases List.mem_cons.1 h with rfl | h
    · exact ⟨rfl, by simp, i + 1, by simp, rfl⟩
    · obtain ⟨h1, h2, k, h3, h4⟩ := boxEn_idx h
      exact ⟨h1, List.mem_cons_of_mem _ h2, k, by simp; omega, h4⟩
theorem en_ok {m : MxA} (hX : mixedX m.pl = true) {x : En} (hx : x ∈ esX m) : EnOk x := by
  have h12 := (mixed_ok hX).2.2
  have hman : manyX (m.bxs.map (·.bx)) = (esX m).length := (entries_len _).symm
  rw [mixed_eq] at hX
  simp only [Bool.and_eq_true, Bool.not_eq_true', List.any_eq_false] at hX
  unfold esX entriesX at hx
  obtain ⟨b, hb, hx⟩ := List.mem_flatMap.1 hx
  obtain ⟨B, hB, rfl⟩ := List.mem_map.1 hb
  obtain ⟨h1, h2, k, h3, h4⟩ := boxEn_idx hx
  have h5 := hX.1.1.2 B hB
  have h6 : badBox B.bx = false := by simpa using h5
  unfold badBox at h6
  rw [Bool.or_eq_false_iff, List.any_eq_false] at h6
  have h7 : badTitle x.title = false := by simpa using h6.2 _ h2
  have h8 := many_mem hB
  unfold badTitle at h7
  rw [Bool.or_eq_false_iff, decide_eq_false_iff_not] at h7
  have h9 : within B.bx.colour 1 9 = true := by simpa using h6.1
  have h10 : within x.title.length 1 12 = true := by simpa using h7.1
  unfold within at h9 h10
  simp only [Bool.and_eq_true, decide_eq_true_eq] at h9 h10
  have hle := List.countP_le_length (p := letterX) (l := x.title)
  obtain ⟨g1, g2⟩ := itoa_good k (by omega)
  exact ⟨by rw [h1]; exact h9, by rw [all_count]; exact decide_eq_true (by omega), by omega, by rw [h4]; exact ⟨g1, g2, itoa_len k⟩⟩
/-! ## The five cards -/
def anyStr : Str := [42]
def cards5 (x : En) (k : Nat) (c' : UInt8) : List Tn := [⟨x.colour, x.number, x.title⟩, ⟨0, x.number, x.title.set k 63⟩, ⟨0, x.number, x.title.set k c'⟩, ⟨0, anyStr, anyStr⟩, ⟨x.colour, anyStr, x.title.take k ++ anyStr⟩]
theorem any_suits (s : Str) : suitsX anyStr s = true := by
  show suitsE [] [] s = true
  unfold suitsE
  simp [suitsW]
theorem head_suits {p : Str} (h : plainP p) (k : Nat) : suitsX (p.take k ++ anyStr) p = true := by
  have h2 : ∀ {q : Str}, plainP q → starAt (q ++ anyStr) = some q.length := by
    intro q
    induction q with
    | nil => intro _; rfl
    | cons a q ih =>
      intro hq
      show (if a.toNat = 42 then some 0 else (starAt (q ++ anyStr)).map (· + 1)) = _
      rw [if_neg (hq a (by simp)).2, ih fun c hc => hq c (List.mem_cons_of_mem _ hc)]
      rfl
  have h3 : plainP (p.take k) := fun c hc => h c (List.mem_of_mem_take hc)
  unfold suitsX
  rw [h2 h3]
  show suitsE ((p.take k ++ anyStr).take (p.take k).length) ((p.take k ++ anyStr).drop ((p.take k).length + 1)) p = true
  have e1 : (p.take k ++ anyStr).take (p.take k).length = p.take k := by simp
  have e2 : (p.take k ++ anyStr).drop ((p.take k).length + 1) = [] := by simp [anyStr]
  rw [e1, e2]
  unfold suitsE
  rw [plain_W h3]
  simp [suitsW]
  omega
theorem q_rf : ∀ {p : Str}, plainP p → ∀ k, Rf (p.set k 63) p
  | [], _, _ => .nil
  | a :: p, h, 0 => .cons (.inl ⟨rfl, (h a (by simp)).2⟩) (Rf.refl p)
  | a :: p, h, k + 1 => .cons (.inr rfl) (q_rf (fun c hc => h c (List.mem_cons_of_mem _ hc)) k)
theorem q_suits {p : Str} (h : plainP p) (k : Nat) : suitsX (p.set k 63) p = true := by
  refine (q_rf h k).suits ?_
  rw [plain_X h]
  simp
theorem c_suits {p : Str} (h : plainP p) {k : Nat} (hk : k < p.length) {c : UInt8} (hc : c.toNat ≠ 63 ∧ c.toNat ≠ 42) (hne : p[k] ≠ c) : suitsX (p.set k c) p = false := by
  have h1 : plainP (p.set k c) := fun a ha => by
    rcases List.mem_or_eq_of_mem_set ha with h2 | rfl
    · exact h a h2
    · exact hc
  rw [plain_X h1]
  refine decide_eq_false fun e => hne ?_
  have h2 : (p.set k c)[k]'(by simpa using hk) = c := by simp
  rw [← h2]
  congr 1
  exact e.symm
def sameX (l : List En) (x : En) : Nat := setOf (fun k => decide (l[k]? = some x)) l.length
def sameP (l : List En) (x : En) (j : Nat) : Nat := setOf (fun k => decide (l[k]? = some x)) j
theorem sameP_yes {l : List En} {x : En} {j : Nat} (hj : j < l.length) (h : l[j] = x) : sameP l x (j + 1) = sameP l x j ||| 2 ^ j := by
  show (if decide (l[j]? = some x) = true then _ else _) = _
  rw [List.getElem?_eq_getElem hj, h, if_pos (by simp)]
  rfl
theorem sameP_no {l : List En} {x : En} {j : Nat} (hj : j < l.length) (h : l[j] ≠ x) : sameP l x (j + 1) = sameP l x j := by
  show (if decide (l[j]? = some x) = true then _ else _) = _
  rw [List.getElem?_eq_getElem hj, if_neg (by simpa using h)]
  rfl
structure Five (l : List En) (x : En) (s0 s1 s2 s3 s4 : Nat) : Prop where
  h0 : s0 = sameX l x
  h1 : s1 &&& sameX l x = sameX l x
  h2 : s2 &&& sameX l x = 0
  h3 : s3 = 2 ^ l.length - 1
  h4 : s4 &&& sameX l x = sameX l x
theorem same_bit (l : List En) (x : En) (k : Nat) : (sameX l x).testBit k = decide (l[k]? = some x) := by
  unfold sameX
  rw [setOf_bit]
  by_cases hk : k < l.length
  · simp [hk]
  · simp [hk]
theorem fits_same {m : Mx} {l : List En} (hl : entriesX m.boxes = l) (t : Tn) (k : Nat) : (fitsX m t).testBit k = (l[k]?.any (fitX t)) := by rw [fits_bit, hl]
theorem five {m : Mx} {l : List En} (hl : entriesX m.boxes = l) {x : En} (hx : x ∈ l) (hok : ∀ y ∈ l, EnOk y) {k : Nat} (hk : k < x.title.length) {c : UInt8} (hc : letterX c = true) (hne : x.title[k] ≠ c) :
    ∃ s0 s1 s2 s3 s4, (cards5 x k c).map (fitsX m) = [s0, s1, s2, s3, s4] ∧ Five l x s0 s1 s2 s3 s4 := by
  have hxo := hok x hx
  have htp := letters_plain hxo.let_
  have hcp : c.toNat ≠ 63 ∧ c.toNat ≠ 42 := by
    unfold letterX at hc
    simp only [Bool.and_eq_true, decide_eq_true_eq] at hc
    omega
  have hcol0 : ∀ y ∈ l, ¬ x.colour = 0 := fun y _ => by have := hxo.col; omega
  refine ⟨_, _, _, _, _, rfl, ⟨?_, ?_, ?_, ?_, ?_⟩⟩
  · refine Nat.eq_of_testBit_eq fun j => ?_
    rw [fits_same hl, same_bit]
    cases hj : l[j]? with
    | none => simp
    | some y =>
      have hym : y ∈ l := List.mem_of_getElem? hj
      show fitX ⟨x.colour, x.number, x.title⟩ y = decide (some y = some x)
      unfold fitX
      simp only
      rw [plain_X hxo.num.1, plain_X htp, decide_eq_false (hcol0 y hym), Bool.false_or]
      rw [Bool.eq_iff_iff]
      simp only [Bool.and_eq_true, decide_eq_true_eq, Option.some.injEq]
      constructor
      · rintro ⟨⟨h1, h2⟩, h3⟩
        cases x; cases y
        simp_all
      · rintro rfl
        exact ⟨⟨rfl, rfl⟩, rfl⟩
  · refine Nat.eq_of_testBit_eq fun j => ?_
    rw [Nat.testBit_and, fits_same hl, same_bit]
    cases hj : l[j]? with
    | none => simp
    | some y =>
      by_cases e : y = x
      · subst e
        have : fitX ⟨0, y.number, y.title.set k 63⟩ y = true := by
          unfold fitX
          simp only
          rw [plain_X hxo.num.1, q_suits htp]
          simp
        show (fitX ⟨0, y.number, y.title.set k 63⟩ y && _) = _
        rw [this]
        simp
      · simp [e]
  · refine Nat.eq_of_testBit_eq fun j => ?_
    rw [Nat.testBit_and, fits_same hl, same_bit, Nat.zero_testBit]
    cases hj : l[j]? with
    | none => simp
    | some y =>
      by_cases e : y = x
      · subst e
        have : fitX ⟨0, y.number, y.title.set k c⟩ y = false := by
          unfold fitX
          simp only
          rw [c_suits htp hk hcp hne, Bool.and_false]
        show (fitX ⟨0, y.number, y.title.set k c⟩ y && _) = _
        rw [this]
        rfl
      · simp [e]
  · refine Nat.eq_of_testBit_eq fun j => ?_
    rw [fits_same hl, Nat.testBit_two_pow_sub_one]
    cases hj : l[j]? with
    | none =>
      have : l.length ≤ j := List.getElem?_eq_none_iff.1 hj
      simp; omega
    | some y =>
      have h1 := (List.getElem?_eq_some_iff.1 hj).1
      show fitX ⟨0, anyStr, anyStr⟩ y = _
      unfold fitX
      simp only
      rw [any_suits, any_suits]
      simp [h1]
  · refine Nat.eq_of_testBit_eq fun j => ?_
    rw [Nat.testBit_and, fits_same hl, same_bit]
    cases hj : l[j]? with
    | none => simp
    | some y =>
      by_cases e : y = x
      · subst e
        have : fitX ⟨y.colour, anyStr, y.title.take k ++ anyStr⟩ y = true := by
          unfold fitX
          simp only
          rw [any_suits, head_suits htp]
          simp
        show (fitX ⟨y.colour, anyStr, y.title.take k ++ anyStr⟩ y && _) = _
        rw [this]
        simp
      · simp [e]
theorem piece_of {p : Str} (hl : p.length ≤ 12) (hg : p.all goodX = true) (hs : p.countP starX ≤ 1) : pieceX p = true := (piece_iff p).2 ⟨hl, hg, hs⟩
theorem set_good {p : Str} (hg : p.all goodX = true) (hp : plainP p) {k : Nat} {c : UInt8} (hc : goodX c = true) (hs : c.toNat ≠ 42) : (p.set k c).all goodX = true ∧ (p.set k c).countP starX = 0 := by
  constructor
  · rw [List.all_eq_true] at hg ⊢
    intro a ha
    rcases List.mem_or_eq_of_mem_set ha with h2 | rfl
    · exact hg a h2
    · exact hc
  · rw [List.countP_eq_zero]
    intro a ha
    unfold starX
    rcases List.mem_or_eq_of_mem_set ha with h2 | rfl
    · have := (hp a h2).2
      simp; omega
    · simp; omega
theorem five_good {x : En} (hx : EnOk x) {k : Nat} (hk : k < x.title.length) {c : UInt8} (hc : letterX c = true) : ∀ t ∈ cards5 x k c, badCard t = false := by
  have htp := letters_plain hx.let_
  have htg := letters_good hx.let_
  have hl := hx.len
  have hcg : goodX c = true := by unfold goodX; rw [hc]; rfl
  have hcs : c.toNat ≠ 42 := by
    unfold letterX at hc
    simp only [Bool.and_eq_true, decide_eq_true_eq] at hc
    omega
  have hn : pieceX x.number = true := piece_of (by have := hx.num.2.2; omega) hx.num.2.1 (by rw [plain_count hx.num.1]; omega)
  have ha : pieceX anyStr = true := by kernel_rfl
  have hcol : within x.colour 0 9 = true := by
    unfold within
    have := hx.col
    simp; omega
  have h0 : within 0 0 9 = true := by kernel_rfl
  intro t ht
  rw [bad_iff]
  unfold cards5 at ht
  rcases List.mem_cons.1 ht with rfl | ht
  · exact ⟨hcol, hn, piece_of hl.2 htg (by rw [plain_count htp]; omega)⟩
  rcases List.mem_cons.1 ht with rfl | ht
  · obtain ⟨g1, g2⟩ := set_good (k := k) htg htp (c := 63) (by decide) (by decide)
    exact ⟨h0, hn, piece_of (by simpa using hl.2) g1 (by rw [g2]; omega)⟩
  rcases List.mem_cons.1 ht with rfl | ht
  · obtain ⟨g1, g2⟩ := set_good (k := k) htg htp hcg hcs
    exact ⟨h0, hn, piece_of (by simpa using hl.2) g1 (by rw [g2]; omega)⟩
  rcases List.mem_cons.1 ht with rfl | ht
  · exact ⟨h0, ha, ha⟩
  · rw [List.mem_singleton.1 ht]
    refine ⟨hcol, ha, piece_of ?_ ?_ ?_⟩
    · show (x.title.take k ++ anyStr).length ≤ 12
      rw [List.length_append, List.length_take]
      show min k x.title.length + 1 ≤ 12
      omega
    · show (x.title.take k ++ anyStr).all goodX = true
      rw [List.all_append, Bool.and_eq_true]
      refine ⟨?_, by decide⟩
      rw [List.all_eq_true] at htg ⊢
      exact fun a ha => htg a (List.mem_of_mem_take ha)
    · show (x.title.take k ++ anyStr).countP starX ≤ 1
      rw [List.countP_append, plain_count (fun a ha => htp a (List.mem_of_mem_take ha))]
      decide
/-- Another letter. -/
theorem next_let {v : UInt8} (h : letterX v = true) : letterX (UInt8.ofNat (97 + (v.toNat - 97 + 1) % 26)) = true ∧ v ≠ UInt8.ofNat (97 + (v.toNat - 97 + 1) % 26) := by
  unfold letterX at h
  simp only [Bool.and_eq_true, decide_eq_true_eq] at h
  obtain ⟨n, hn⟩ : ∃ n, v.toNat = n := ⟨_, rfl⟩
  have e : (UInt8.ofNat (97 + (v.toNat - 97 + 1) % 26)).toNat = 97 + (v.toNat - 97 + 1) % 26 := by
    rw [UInt8.toNat_ofNat']
    omega
  refine ⟨?_, fun h2 => ?_⟩
  · unfold letterX
    rw [e]
    simp
    omega
  · have h3 := congrArg UInt8.toNat h2
    rw [e] at h3
    omega
end Go.Hp
/- The facts on the tables of types and on the entries of functions that the walks use. Written by program. -/
set_option linter.unusedSimpArgs false
set_option linter.unusedVariables false
namespace Go.Proofs.YtlhdalcipflblaaDoor
open Go Go.Eng
theorem ent_41 : Enters Tryd.prog 41 := enters_of Tryd.func41 (by kernel_rfl) rfl
theorem ent_43 : Enters Tryd.prog 43 := enters_of Tryd.func43 (by kernel_rfl) rfl
theorem ent_50 : Enters Tryd.prog 50 := enters_of Tryd.func50 (by kernel_rfl) rfl
theorem ent_67 : Enters Tryd.prog 67 := enters_of Tryd.func67 (by kernel_rfl) rfl
theorem fld_56_0 : fieldB Tryd.prog 56 0 = some 0 := by kernel_rfl
theorem fld_56_1 : fieldB Tryd.prog 56 1 = some 1 := by kernel_rfl
theorem fld_56_2 : fieldB Tryd.prog 56 2 = some 2 := by kernel_rfl
theorem ty_56 : tyB Tryd.prog 56 = some (true, 3) := by kernel_rfl
end Go.Proofs.YtlhdalcipflblaaDoor
/- The facts on the tables of types and on the entries of functions that the walks use. Written by program. -/
set_option linter.unusedSimpArgs false
set_option linter.unusedVariables false
namespace Go.Proofs.YtlhdalcipflblaaDoor
open Go Go.Eng
theorem ent_15 : Enters Tryd.prog 15 := enters_of Tryd.func15 (by kernel_rfl) rfl
theorem ent_17 : Enters Tryd.prog 17 := enters_of Tryd.func17 (by kernel_rfl) rfl
theorem ent_49 : Enters Tryd.prog 49 := enters_of Tryd.func49 (by kernel_rfl) rfl
end Go.Proofs.YtlhdalcipflblaaDoor
/- The facts on the tables of types and on the entries of functions that the walks use. Written by program. -/
set_option linter.unusedSimpArgs false
set_option linter.unusedVariables false
namespace Go.Proofs.YtlhdalcipflblaaDoor
open Go Go.Eng
theorem eqB_56 : aggB Tryd.prog 56 = true := by kernel_rfl
theorem kl_56 (a0 : Int) (a1 : ByteArray) (a2 : ByteArray) (c0 : Int) (c1 : ByteArray) (c2 : ByteArray) : eqF Tryd.prog 8 56 [.int .i64 a0, .string a1, .string a2] [.int .i64 c0, .string c1, .string c2] = some (decide (a0 = c0) && ((a1.toList == c1.toList) && ((a2.toList == c2.toList) && true))) := by kernel_rfl
end Go.Proofs.YtlhdalcipflblaaDoor
/- Walks of the laws of layer 10: HeapPieces. -/
set_option linter.unusedSimpArgs false
set_option linter.unusedVariables false
namespace Go.Hp
open Go Go.Eng Go.Pw1
theorem en_rowsP {l : List En} : ∀ x ∈ l.map En.cells, x.length = 3 := fun x hx => by obtain ⟨t, _, rfl⟩ := List.mem_map.1 hx; rfl
def nilA (m : MxA) : MxA := { m with cards := [], q2 := none, b2 := 0, o2 := 0, cap2 := 0 }
def fiveA (m : MxA) (l : List Tn) (b : Nat) : MxA := { m with cards := l, q2 := some ⟨b, 0, none⟩, b2 := b, o2 := 0, cap2 := 5 }
theorem nil_ok {W : World} {m : MxA} (h : MOk W m) : MOk W (nilA m) := ⟨h.bx, h.ti, Sl.emp⟩
theorem en_T {y x : En} {P : Prop} (h : y.colour = x.colour ∧ ((bs y.number).toList == (bs x.number).toList) = true ∧ ((bs y.title).toList == (bs x.title).toList) = true ∧ P) : y = x := by
  obtain ⟨h1, h2, h3, _⟩ := h
  rw [bs_toList, bs_toList, beq_iff_eq] at h2 h3
  cases y; cases x
  simp_all
theorem five_mixed {m : MxA} {l : List Tn} {b : Nat} (hX : mixedX (nilA m).pl = true) (hl : l.length = 5) (h : ∀ t ∈ l, badCard t = false) : mixedX (fiveA m l b).pl = true := by
  rw [mixed_eq] at hX ⊢
  simp only [Bool.and_eq_true, Bool.not_eq_true', List.any_eq_false, decide_eq_true_eq] at hX ⊢
  refine ⟨⟨⟨⟨hX.1.1.1.1, by show l.length ≤ 8; omega⟩, hX.1.1.2⟩, hX.1.2⟩, fun t ht => by rw [h t ht]; exact Bool.false_ne_true⟩
theorem five_sm {m : MxA} {l : List Tn} {b : Nat} (hs : MSm (nilA m)) (hl : l.length = 5) (h : ∀ t ∈ l, badCard t = false) : MSm (fiveA m l b) := by
  refine ⟨hs.bx, by show l.length ≤ 1000; omega, hs.ti, fun t ht => ?_⟩
  have h1 := h t ht
  rw [bad_iff] at h1
  have h2 := ((piece_iff _).1 h1.2.1).1
  have h3 := ((piece_iff _).1 h1.2.2).1
  omega
end Go.Hp
namespace Go.Proofs.YtlhdalcipflblaaDoor
open Go Go.Eng Go.Hp Go.Pw1

theorem rEntriesP (m : MxA) (hsm : MSm m) (hX : mixedX m.pl = true) (hn : 0 < (esX m).length) (W : World) (hM : MOk W m) : Calls Tryd.prog 34 #[m.v] W
    (News (fun z : OZ => .slice (some ⟨z.1, 0, none⟩) (esX m).length z.2.1) (fun z => [(z.1, .cells (((esX m).map En.cells).flatten ++ z.2.2).toArray 56 (0, 0))]) W) := by
  refine calls_mono (rEntries_calls m hsm hX W hM) ?_
  rintro ed w' ⟨⟨x, hx⟩, rfl, hm⟩
  obtain ⟨b, c, r, rfl, _⟩ := hx.has hn
  exact ⟨(b, c, r), rfl, hm⟩
theorem hpieces_far (m : MxA) (g a : Nat) (W : World) (hM : MOk W m) (hf : farX (nilA m).pl = true) : Calls Tryd.prog 6 #[m.v, .int .u8 (g : Int), .int .u8 (a : Int)] W (Pure (.bool true) W) := by
  have hM0 := nil_ok hM
  refine calls_start Tryd.func6 rfl rfl ?_
  refine RunC.seq ?_
  refine RunC.region ?_
  refine RunL.new (New.box rfl) rfl rfl rfl (fun b3 => ?_)
  refine RunL.val (Val.pure rfl) rfl rfl rfl ?_
  refine RunL.nil ?_
  refine RunE.next ?_
  refine RunC.seq ?_
  refine RunC.region ?_
  refine RunL.val (Val.fieldAddr rfl fld_25_1) rfl rfl rfl ?_
  refine RunL.sto (Sto.store rfl rfl .here ty_23 rfl rfl) rfl rfl ?_
  refine RunL.nil ?_
  refine RunE.next ?_
  refine RunC.seq ?_
  refine RunC.seq ?_
  refine RunC.region ?_
  refine RunL.val (Val.load_agg rfl (.head _) ty_25 rfl) rfl rfl rfl ?_
  refine RunL.callP (isCall_func rfl ent_12) rfl rfl rfl (fun w hm => far_calls (nilA m) w (hM0.mono0 hm)) ?_
  refine RunL.val (Val.pure rfl) rfl rfl rfl ?_
  refine RunL.sure (dj := 22) true rfl (by simp [hf]) ?_
  iterate 3 refine RunL.no rfl rfl rfl ?_
  refine RunL.val (Val.pure rfl) rfl rfl rfl ?_
  refine RunL.nil ?_
  refine RunE.next ?_
  refine RunC.cond rfl ?_ (fun h => absurd h (by simp))
  intro c0
  clear c0
  refine RunC.seq ?_
  refine RunC.region ?_
  refine RunL.callP (isCall_func rfl ent_13) rfl rfl rfl (fun w hm => hawake_calls w) ?_
  refine RunL.val (Val.pure rfl) rfl rfl rfl ?_
  refine RunL.nil ?_
  refine RunE.next ?_
  refine RunC.ret ?_
  refine RunE.pass_ret ?_
  exact RunE.retP (.r1 rfl (.tmp rfl)) (by first | rfl | simp)
theorem hpieces_bad (m : MxA) (g a : Nat) (W : World) (hM : MOk W m) (hf : farX (nilA m).pl = false) (hX : mixedX (nilA m).pl = false) : Calls Tryd.prog 6 #[m.v, .int .u8 (g : Int), .int .u8 (a : Int)] W (Pure (.bool true) W) := by
  have hM0 := nil_ok hM
  have hsm := far_sm hf
  refine calls_start Tryd.func6 rfl rfl ?_
  refine RunC.seq ?_
  refine RunC.region ?_
  refine RunL.new (New.box rfl) rfl rfl rfl (fun b3 => ?_)
  refine RunL.val (Val.pure rfl) rfl rfl rfl ?_
  refine RunL.nil ?_
  refine RunE.next ?_
  refine RunC.seq ?_
  refine RunC.region ?_
  refine RunL.val (Val.fieldAddr rfl fld_25_1) rfl rfl rfl ?_
  refine RunL.sto (Sto.store rfl rfl .here ty_23 rfl rfl) rfl rfl ?_
  refine RunL.nil ?_
  refine RunE.next ?_
  refine RunC.seq ?_
  refine RunC.seq ?_
  refine RunC.region ?_
  refine RunL.val (Val.load_agg rfl (.head _) ty_25 rfl) rfl rfl rfl ?_
  refine RunL.callP (isCall_func rfl ent_12) rfl rfl rfl (fun w hm => far_calls (nilA m) w (hM0.mono0 hm)) ?_
  refine RunL.val (Val.pure rfl) rfl rfl rfl ?_
  refine RunL.sure (dj := 22) false rfl (by simp [hf]) ?_
  refine RunL.val (Val.load_agg rfl (.head _) ty_25 rfl) rfl rfl rfl ?_
  refine RunL.callP (isCall_func rfl ent_33) rfl rfl rfl (fun w hm => rMixed_calls (nilA m) hsm w (hM0.mono0 hm)) ?_
  refine RunL.val (Val.pure rfl) rfl rfl rfl ?_
  refine RunL.val (Val.pure rfl) rfl rfl rfl ?_
  refine RunL.nil ?_
  refine RunE.next ?_
  refine RunC.cond rfl ?_ (fun h => absurd h (by simp [hX]))
  intro c0
  clear c0
  refine RunC.seq ?_
  refine RunC.region ?_
  refine RunL.callP (isCall_func rfl ent_13) rfl rfl rfl (fun w hm => hawake_calls w) ?_
  refine RunL.val (Val.pure rfl) rfl rfl rfl ?_
  refine RunL.nil ?_
  refine RunE.next ?_
  refine RunC.ret ?_
  refine RunE.pass_ret ?_
  exact RunE.retP (.r1 rfl (.tmp rfl)) (by first | rfl | simp)
theorem hpieces_none (m : MxA) (g a : Nat) (W : World) (hM : MOk W m) (hf : farX (nilA m).pl = false) (hX : mixedX (nilA m).pl = true) (hn : (esX (nilA m)).length = 0) : Calls Tryd.prog 6 #[m.v, .int .u8 (g : Int), .int .u8 (a : Int)] W (Pure (.bool true) W) := by
  have hM0 := nil_ok hM
  have hsm := far_sm hf
  refine calls_start Tryd.func6 rfl rfl ?_
  refine RunC.seq ?_
  refine RunC.region ?_
  refine RunL.new (New.box rfl) rfl rfl rfl (fun b3 => ?_)
  refine RunL.val (Val.pure rfl) rfl rfl rfl ?_
  refine RunL.nil ?_
  refine RunE.next ?_
  refine RunC.seq ?_
  refine RunC.region ?_
  refine RunL.val (Val.fieldAddr rfl fld_25_1) rfl rfl rfl ?_
  refine RunL.sto (Sto.store rfl rfl .here ty_23 rfl rfl) rfl rfl ?_
  refine RunL.nil ?_
  refine RunE.next ?_
  refine RunC.seq ?_
  refine RunC.seq ?_
  refine RunC.region ?_
  refine RunL.val (Val.load_agg rfl (.head _) ty_25 rfl) rfl rfl rfl ?_
  refine RunL.callP (isCall_func rfl ent_12) rfl rfl rfl (fun w hm => far_calls (nilA m) w (hM0.mono0 hm)) ?_
  refine RunL.val (Val.pure rfl) rfl rfl rfl ?_
  refine RunL.sure (dj := 22) false rfl (by simp [hf]) ?_
  refine RunL.val (Val.load_agg rfl (.head _) ty_25 rfl) rfl rfl rfl ?_
  refine RunL.callP (isCall_func rfl ent_33) rfl rfl rfl (fun w hm => rMixed_calls (nilA m) hsm w (hM0.mono0 hm)) ?_
  refine RunL.val (Val.pure rfl) rfl rfl rfl ?_
  refine RunL.val (Val.pure rfl) rfl rfl rfl ?_
  refine RunL.nil ?_
  refine RunE.next ?_
  refine RunC.cond rfl (fun h => absurd h (by simp [hX])) ?_
  intro c0
  clear c0
  refine RunC.skip ?_
  refine RunE.next ?_
  refine RunC.seq ?_
  refine RunC.region ?_
  refine RunL.val (Val.load_agg rfl (.head _) ty_25 rfl) rfl rfl rfl ?_
  refine RunL.callNT (isCall_func rfl ent_34) rfl rfl rfl (fun w hm => rEntries_calls (nilA m) hsm hX w (hM0.mono0 hm)) (fun z29 => ?_)
  obtain ⟨x29, hx29⟩ := z29
  dsimp only
  refine RunL.val (Val.pure rfl) rfl rfl rfl ?_
  refine RunL.nil ?_
  refine RunE.next ?_
  refine RunC.seq ?_
  refine RunC.seq ?_
  refine RunC.region ?_
  refine RunL.val (Val.pure rfl) rfl rfl rfl ?_
  refine RunL.val (Val.len_sl rfl sl_53) rfl rfl rfl ?_
  refine RunL.val (Val.pure rfl) rfl rfl rfl ?_
  refine RunL.nil ?_
  refine RunE.next ?_
  refine RunC.cond rfl ?_ (fun h => absurd h (by simp [hn]))
  intro c1
  clear c1
  refine RunC.seq ?_
  refine RunC.region ?_
  refine RunL.callP (isCall_func rfl ent_13) rfl rfl rfl (fun w hm => hawake_calls w) ?_
  refine RunL.val (Val.pure rfl) rfl rfl rfl ?_
  refine RunL.nil ?_
  refine RunE.next ?_
  refine RunC.ret ?_
  refine RunE.pass_ret ?_
  exact RunE.retP (.r1 rfl (.tmp rfl)) (by first | rfl | simp)
set_option maxHeartbeats 2000000 in
theorem hpieces_ok (m : MxA) (g a : Nat) (hg : g < 256) (ha : a < 256) (W : World) (hM : MOk W m) (hf : farX (nilA m).pl = false) (hX : mixedX (nilA m).pl = true) (hn : 0 < (esX (nilA m)).length) : Calls Tryd.prog 6 #[m.v, .int .u8 (g : Int), .int .u8 (a : Int)] W (Pure (.bool true) W) := by
  have hM0 := nil_ok hM
  have hsm := far_sm hf
  obtain ⟨h4, h8, h12⟩ := mixed_ok hX
  obtain ⟨l, hl⟩ : ∃ l, esX (nilA m) = l := ⟨_, rfl⟩
  have hent := rEntriesP (nilA m) hsm hX hn
  rw [hl] at hn h12 hent
  obtain ⟨i, hgi, hil⟩ := mod_at (k := g) hn
  obtain ⟨xe, hxe⟩ : ∃ xe, l[i] = xe := ⟨_, rfl⟩
  have hxm : xe ∈ l := hxe ▸ List.getElem_mem hil
  have hall : ∀ y ∈ l, EnOk y := fun y hy => en_ok hX (by rw [hl]; exact hy)
  have hxo := hall xe hxm
  obtain ⟨hx1, hx12⟩ := hxo.len
  obtain ⟨K, haK, hKl⟩ := mod_at (k := a) (show 0 < xe.title.length by omega)
  obtain ⟨v, hv⟩ : ∃ v, xe.title[K] = v := ⟨_, rfl⟩
  have hvl : letterX v = true := List.all_eq_true.1 hxo.let_ v (hv ▸ List.getElem_mem hKl)
  have hvb : 97 ≤ v.toNat ∧ v.toNat ≤ 122 := by
    unfold letterX at hvl
    simp only [Bool.and_eq_true, decide_eq_true_eq] at hvl
    omega
  obtain ⟨hcl, hcn⟩ := next_let hvl
  obtain ⟨c', hc'⟩ : ∃ c', UInt8.ofNat (97 + (v.toNat - 97 + 1) % 26) = c' := ⟨_, rfl⟩
  have hcv : ((97 + (v.toNat - 97 + 1) % 26 : Nat) : Int) = (c'.toNat : Int) := by rw [← hc']; exact byte_v (by omega)
  rw [hc'] at hcl hcn
  obtain ⟨s0, s1, s2, s3, s4, hSS, hF⟩ := five (m := (nilA m).pl) hl hxm hall hKl hcl (by rw [hv]; exact hcn)
  have hgood := five_good hxo hKl hcl
  have hp12 : 2 ^ l.length ≤ 2 ^ 12 := Nat.pow_le_pow_right (by decide) h12
  have hpp := Nat.two_pow_pos l.length
  have hsl : sameX l xe < 2 ^ l.length := setOf_lt _ _
  have h5 : (cards5 xe K c').length = 5 := rfl
  have hX1 : ∀ b, mixedX (fiveA m (cards5 xe K c') b).pl = true := fun b => five_mixed hX h5 hgood
  have hS1 : ∀ b, MSm (fiveA m (cards5 xe K c') b) := fun b => five_sm hsm h5 hgood
  have hFS : ∀ b, fsX (fiveA m (cards5 xe K c') b).pl = [s0, s1, s2, s3, s4] := fun b => hSS
  have h12s : ∀ f ∈ [s0, s1, s2, s3, s4], f < 2 ^ 12 := fun f hf9 => by
    have := fs12 (hX1 0) f (by rw [hFS]; exact hf9)
    exact this
  have b0 := h12s s0 (by simp)
  have b1 := h12s s1 (by simp)
  have b2 := h12s s2 (by simp)
  have b3' := h12s s3 (by simp)
  have b4 := h12s s4 (by simp)
  have a1 := Nat.and_le_left (n := s1) (m := sameX l xe)
  have a2 := Nat.and_le_left (n := s2) (m := sameX l xe)
  have a4 := Nat.and_le_left (n := s4) (m := sameX l xe)
  refine calls_start Tryd.func6 rfl rfl ?_
  refine RunC.seq ?_
  refine RunC.region ?_
  refine RunL.new (New.box rfl) rfl rfl rfl (fun b3 => ?_)
  refine RunL.val (Val.pure rfl) rfl rfl rfl ?_
  refine RunL.nil ?_
  refine RunE.next ?_
  refine RunC.seq ?_
  refine RunC.region ?_
  refine RunL.val (Val.fieldAddr rfl fld_25_1) rfl rfl rfl ?_
  refine RunL.sto (Sto.store rfl rfl .here ty_23 rfl rfl) rfl rfl ?_
  refine RunL.nil ?_
  refine RunE.next ?_
  refine RunC.seq ?_
  refine RunC.seq ?_
  refine RunC.region ?_
  refine RunL.val (Val.load_agg rfl (.head _) ty_25 rfl) rfl rfl rfl ?_
  refine RunL.callP (isCall_func rfl ent_12) rfl rfl rfl (fun w hm => far_calls (nilA m) w (hM0.mono0 hm)) ?_
  refine RunL.val (Val.pure rfl) rfl rfl rfl ?_
  refine RunL.sure (dj := 22) false rfl (by simp [hf]) ?_
  refine RunL.val (Val.load_agg rfl (.head _) ty_25 rfl) rfl rfl rfl ?_
  refine RunL.callP (isCall_func rfl ent_33) rfl rfl rfl (fun w hm => rMixed_calls (nilA m) hsm w (hM0.mono0 hm)) ?_
  refine RunL.val (Val.pure rfl) rfl rfl rfl ?_
  refine RunL.val (Val.pure rfl) rfl rfl rfl ?_
  refine RunL.nil ?_
  refine RunE.next ?_
  refine RunC.cond rfl (fun h => absurd h (by simp [hX])) ?_
  intro c0
  clear c0
  refine RunC.skip ?_
  refine RunE.next ?_
  refine RunC.seq ?_
  refine RunC.region ?_
  refine RunL.val (Val.load_agg rfl (.head _) ty_25 rfl) rfl rfl rfl ?_
  refine RunL.callN (isCall_func rfl ent_34) rfl rfl rfl (fun w hm => hent w (hM0.mono0 hm)) (fun b29 => ?_)
  refine RunL.val (Val.pure rfl) rfl rfl rfl ?_
  refine RunL.nil ?_
  refine RunE.next ?_
  refine RunC.seq ?_
  refine RunC.seq ?_
  refine RunC.region ?_
  refine RunL.val (Val.pure rfl) rfl rfl rfl ?_
  refine RunL.val (Val.len_sl rfl sl_53) rfl rfl rfl ?_
  refine RunL.val (Val.pure rfl) rfl rfl rfl ?_
  refine RunL.nil ?_
  refine RunE.next ?_
  refine RunC.cond rfl (fun h => absurd h (by simp [List.length_pos_iff.1 hn])) ?_
  intro c1
  clear c1
  refine RunC.skip ?_
  refine RunE.next ?_
  refine RunC.seq ?_
  refine RunC.region ?_
  refine RunL.val (Val.pure rfl) rfl rfl rfl ?_
  refine RunL.val (Val.pure rfl) rfl rfl rfl ?_
  refine RunL.val (Val.convInt rfl und_5 und_3 (IntWalk.i64_in _ ⟨by omega, by omega⟩)) rfl rfl rfl ?_
  refine RunL.val (Val.pure rfl) rfl rfl rfl ?_
  refine RunL.val (Val.len_sl rfl sl_53) rfl rfl rfl ?_
  refine RunL.val (Val.remN (a := g) (b := l.length) rfl rfl hn) rfl rfl rfl ?_
  rw [hgi]
  refine RunL.val (Val.indexAddr_sl rfl rfl sl_53 (by omega) (by omega)) rfl rfl rfl ?_
  refine RunL.val (Val.load_gen rfl (fun w hm => (Sl.rowsR (xs := l.map En.cells) (t := b29.2.2) (hm.at (.head _)) en_rowsP).loadX (by decide) (Mem.refl w) (by simp) ty_56 hil hxe)) rfl rfl rfl ?_
  refine RunL.new (New.alloc zero_56) rfl rfl rfl (fun b8 => ?_)
  refine RunL.sto (Sto.store rfl rfl .here ty_56 rfl rfl) rfl rfl ?_
  refine RunL.nil ?_
  refine RunE.next ?_
  refine RunC.seq ?_
  refine RunC.region ?_
  refine RunL.val (Val.pure rfl) rfl rfl rfl ?_
  refine RunL.nil ?_
  refine RunE.next ?_
  refine RunC.seq ?_
  refine RunC.seq ?_
  refine RunC.region ?_
  refine RunL.val (Val.pure rfl) rfl rfl rfl ?_
  refine RunL.val (Val.len_sl rfl sl_53) rfl rfl rfl ?_
  refine RunL.val (Val.pure rfl) rfl rfl rfl ?_
  refine RunL.nil ?_
  refine RunE.next ?_
  refine RunC.block ?_
  refine RunC.loopK (l.length) (fun j q => (44, .int .i64 (j : Int)) :: (9, .int .i64 ((sameP l xe j : Nat) : Int)) :: q) (fun _ => _) (fun _ => []) (fun _ => True) trivial rfl (Sub.consE (t := 44) rfl rfl (Sub.consE (t := 9) rfl rfl (Sub.cons (t := 1) rfl (Sub.cons (t := 2) rfl (Sub.cons (t := 3) rfl (Sub.cons (t := 7) rfl (Sub.cons (t := 8) rfl (Sub.cons (t := 42) rfl (Sub.cons (t := 43) rfl (Sub.nil _)))))))))) (.cons .here rfl (.cons .here rfl (.cons .here rfl .nil))) ?_
  intro j jN jI
  clear jI
  refine RunC.seq ?_
  refine RunC.region ?_
  refine RunL.val (Val.pure rfl) rfl rfl rfl ?_
  refine RunL.nil ?_
  refine RunE.next ?_
  refine RunC.seq ?_
  refine RunC.cond rfl ?_ ?_
  · intro c2
    have c2' := c2; clear c2
    try simp only [decide_eq_true_eq, decide_eq_false_iff_not, Bool.not_eq_true', Bool.not_eq_false', Bool.and_eq_true, Bool.or_eq_true, Bool.and_eq_false_iff, Bool.or_eq_false_iff, Int.not_le, Int.not_lt] at c2'
    have hj : j < l.length := by omega
    obtain ⟨y, hy⟩ : ∃ y, l[j] = y := ⟨_, rfl⟩
    have hsj : sameP l xe j < 2 ^ j := setOf_lt _ _
    have h2j : 2 ^ j < 2 ^ 12 := Nat.pow_lt_pow_right (by decide) (by omega)
    have hor := Nat.or_lt_two_pow (show sameP l xe j < 2 ^ 12 by omega) h2j
    refine RunC.skip ?_
    refine RunE.next ?_
    refine RunC.seq ?_
    refine RunC.block ?_
    refine RunC.seq ?_
    refine RunC.region ?_
    refine RunL.val (Val.pure rfl) rfl rfl rfl ?_
    refine RunL.val (Val.indexAddr_sl rfl rfl sl_53 (by omega) (by omega)) rfl rfl rfl ?_
    refine RunL.val (Val.load_gen rfl (fun w hm => (Sl.rowsR (xs := l.map En.cells) (t := b29.2.2) (hm.at (.tail _ (.head _))) en_rowsP).loadX (by decide) (Mem.refl w) (by simp) ty_56 hj hy)) rfl rfl rfl ?_
    refine RunL.new (New.alloc zero_56) rfl rfl rfl (fun b11 => ?_)
    refine RunL.val (Val.pure rfl) rfl rfl rfl ?_
    refine RunL.sto (Sto.store rfl rfl .here ty_56 rfl rfl) rfl rfl ?_
    refine RunL.nil ?_
    refine RunE.next ?_
    refine RunC.seq ?_
    refine RunC.region ?_
    refine RunL.val (Val.load_agg rfl (.head _) ty_56 rfl) rfl rfl rfl ?_
    refine RunL.val (Val.load_agg rfl (.tail _ (.head _)) ty_56 rfl) rfl rfl rfl ?_
    refine RunL.val (Val.eql_flat rfl rfl eqB_56 (kl_56 _ _ _ _ _ _ )) rfl rfl rfl ?_
    refine RunL.nil ?_
    refine RunE.next ?_
    refine RunC.cond rfl ?_ ?_
    · intro c3
      have c3' := c3; clear c3
      try simp only [decide_eq_true_eq, decide_eq_false_iff_not, Bool.not_eq_true', Bool.not_eq_false', Bool.and_eq_true, Bool.or_eq_true, Bool.and_eq_false_iff, Bool.or_eq_false_iff, Int.not_le, Int.not_lt] at c3'
      have hyx : y = xe := en_T c3'
      refine RunC.region ?_
      refine RunL.val (Val.pure rfl) rfl rfl rfl ?_
      refine RunL.val (Val.pure rfl) rfl rfl rfl ?_
      refine RunL.val (Val.shl1 (b := j) rfl rfl (by show j ≤ 64; omega) (i64_inN (by omega))) rfl rfl rfl ?_
      refine RunL.val (Val.or (a := sameP l xe j) (b := 2 ^ j) rfl rfl (by show _ < 18446744073709551616; omega) (by show _ < 18446744073709551616; omega) (i64_inN (by omega))) rfl rfl rfl ?_
      refine RunL.val (Val.pure rfl) rfl rfl rfl ?_
      refine RunL.nil ?_
      refine RunE.block_normal ?_
      refine RunE.next ?_
      refine RunC.region ?_
      refine RunL.val (Val.add rfl rfl (IntWalk.i64_in _ ⟨by omega, by omega⟩)) rfl rfl rfl ?_
      refine RunL.val (Val.pure rfl) rfl rfl rfl ?_
      refine RunL.nil ?_
      exact RunE.round (by omega) trivial rfl (Sub.consE (t := 44) rfl rfl (Sub.consE (t := 9) rfl (by first | rw [sameP_yes hj (by rw [hy]; exact hyx)] | rw [sameP_no hj (by rw [hy]; exact hyx)]) (Sub.cons (t := 1) rfl (Sub.cons (t := 2) rfl (Sub.cons (t := 3) rfl (Sub.cons (t := 7) rfl (Sub.cons (t := 8) rfl (Sub.cons (t := 42) rfl (Sub.cons (t := 43) rfl (Sub.nil _)))))))))) (.cons (.there .here) rfl (.cons (.there .here) rfl (.cons (.there .here) rfl .nil)))
    · intro c3
      have c3' := c3; clear c3
      try simp only [decide_eq_true_eq, decide_eq_false_iff_not, Bool.not_eq_true', Bool.not_eq_false', Bool.and_eq_true, Bool.or_eq_true, Bool.and_eq_false_iff, Bool.or_eq_false_iff, Int.not_le, Int.not_lt] at c3'
      have hyx : y ≠ xe := fun e => by (subst e; simp at c3')
      refine RunC.skip ?_
      refine RunE.block_normal ?_
      refine RunE.next ?_
      refine RunC.region ?_
      refine RunL.val (Val.add rfl rfl (IntWalk.i64_in _ ⟨by omega, by omega⟩)) rfl rfl rfl ?_
      refine RunL.val (Val.pure rfl) rfl rfl rfl ?_
      refine RunL.nil ?_
      exact RunE.round (by omega) trivial rfl (Sub.consE (t := 44) rfl rfl (Sub.consE (t := 9) rfl (by first | rw [sameP_yes hj (by rw [hy]; exact hyx)] | rw [sameP_no hj (by rw [hy]; exact hyx)]) (Sub.cons (t := 1) rfl (Sub.cons (t := 2) rfl (Sub.cons (t := 3) rfl (Sub.cons (t := 7) rfl (Sub.cons (t := 8) rfl (Sub.cons (t := 42) rfl (Sub.cons (t := 43) rfl (Sub.nil _)))))))))) (.cons (.there .here) rfl (.cons (.there .here) rfl (.cons (.there .here) rfl .nil)))
  · intro c2
    have c2' := c2; clear c2
    try simp only [decide_eq_true_eq, decide_eq_false_iff_not, Bool.not_eq_true', Bool.not_eq_false', Bool.and_eq_true, Bool.or_eq_true, Bool.and_eq_false_iff, Bool.or_eq_false_iff, Int.not_le, Int.not_lt] at c2'
    obtain rfl : j = l.length := by omega
    rw [show sameP l xe l.length = sameX l xe from rfl]
    refine RunC.exit ?_
    refine RunE.pass_exit ?_
    refine RunE.pass_exit ?_
    refine RunE.block_here ?_
    refine RunE.next ?_
    refine RunC.seq ?_
    refine RunC.drawX (X := (Nat × Nat) × (Nat × Nat)) 7 (n0 := [(b8, _), (b29.1, _), (b3, _)]) (fun y q => (12, .slice (some ⟨y.1.1, 0, none⟩) xe.title.length (xe.title.length + y.1.2)) :: (13, .slice (some ⟨y.2.1, 0, none⟩) xe.title.length (xe.title.length + y.2.2)) :: q) (fun y => []) (fun y => [(y.1.1, bytesO 5 (xe.title.map byteV) y.1.2), (y.2.1, bytesO 5 (xe.title.map byteV) y.2.2)]) (fun y => []) (fun y => True) fol_ (.cons .here rfl (.cons .here rfl (.cons .here rfl .nil))) (Sub.cons (t := 1) rfl (Sub.cons (t := 2) rfl (Sub.cons (t := 3) rfl (Sub.cons (t := 7) rfl (Sub.cons (t := 8) rfl (Sub.cons (t := 9) rfl (Sub.nil _))))))) (.cons .here rfl (.cons .here rfl (.cons .here rfl .nil))) ?_ ?_
    · refine RunA.val (i := 0) rfl (by kernel_rfl) (by kernel_rfl) (Val.fieldAddr rfl fld_56_2) rfl rfl rfl (fun _ _ _ h => h) (.cons .here rfl (.cons .here rfl (.cons .here rfl .nil))) rfl ?_
      refine RunA.val (i := 1) rfl (by kernel_rfl) (by kernel_rfl) (Val.load_one rfl (.head _) ty_9 rfl) rfl rfl rfl (fun _ _ _ h => h) (.cons .here rfl (.cons .here rfl (.cons .here rfl .nil))) rfl ?_
      refine RunA.val (i := 3) rfl (by kernel_rfl) (by kernel_rfl) (Val.fieldAddr rfl fld_56_2) rfl rfl rfl (fun _ _ _ h => h) (.cons .here rfl (.cons .here rfl (.cons .here rfl .nil))) rfl ?_
      refine RunA.val (i := 4) rfl (by kernel_rfl) (by kernel_rfl) (Val.load_one rfl (.head _) ty_9 rfl) rfl rfl rfl (fun _ _ _ h => h) (.cons .here rfl (.cons .here rfl (.cons .here rfl .nil))) rfl ?_
      refine RunA.all (rs := [2, 5]) (by kernel_rfl) (by simp) (by kernel_rfl) (fun m hm => ?_)
      simp only [List.mem_cons, List.not_mem_nil, or_false] at hm
      rcases hm with rfl | rfl
      · refine RunI.newX rfl (NewX.bytes rfl und_9 sls_47 und_5) rfl rfl rfl (fun p59 _ b59 => (RunK.toA (.cons .here rfl (.cons .here rfl (.cons .here rfl (.cons .here rfl .nil)))) (.cons (.there .here) rfl (.cons (.there .here) rfl (.cons (.there .here) rfl .nil))) rfl ?_))
        refine RunA.val (i := 6) rfl (by kernel_rfl) (by kernel_rfl) (Val.pure rfl) rfl rfl rfl (fun _ _ _ h => h) (.cons .here rfl (.cons .here rfl (.cons .here rfl (.cons .here rfl .nil)))) rfl ?_
        refine RunA.one (i := 5) (by kernel_rfl) (by kernel_rfl) ?_
        refine RunI.newX rfl (NewX.bytes rfl und_9 sls_47 und_5) rfl rfl rfl (fun p62 _ b62 => (RunK.toA (.cons .here rfl (.cons .here rfl (.cons .here rfl (.cons .here rfl (.cons .here rfl .nil))))) (.cons (.there .here) rfl (.cons (.there .here) rfl (.cons (.there .here) rfl (.cons (.there .here) rfl .nil)))) rfl ?_))
        refine RunA.toB (by kernel_rfl) ?_
        refine RunB.one (i := 7) (by kernel_rfl) ?_
        refine RunI.val rfl (Val.pure rfl) rfl rfl rfl (RunK.toB ?_)
        refine RunB.done (by kernel_rfl) ?_
        exact RunE.joinX ((b59, p59), (b62, p62)) trivial rfl (Sub.consE (t := 12) rfl rfl (Sub.consE (t := 13) rfl rfl (Sub.cons (t := 1) rfl (Sub.cons (t := 2) rfl (Sub.cons (t := 3) rfl (Sub.cons (t := 7) rfl (Sub.cons (t := 8) rfl (Sub.cons (t := 9) rfl (Sub.nil _))))))))) (.cons (.there .here) rfl (.cons .here rfl (.cons .here rfl (.cons .here rfl (.cons .here rfl .nil)))))
      · refine RunI.newX rfl (NewX.bytes rfl und_9 sls_47 und_5) rfl rfl rfl (fun p62 _ b62 => (RunK.toA (.cons .here rfl (.cons .here rfl (.cons .here rfl (.cons .here rfl .nil)))) (.cons (.there .here) rfl (.cons (.there .here) rfl (.cons (.there .here) rfl .nil))) rfl ?_))
        refine RunA.one (i := 2) (by kernel_rfl) (by kernel_rfl) ?_
        refine RunI.newX rfl (NewX.bytes rfl und_9 sls_47 und_5) rfl rfl rfl (fun p59 _ b59 => (RunK.toA (.cons .here rfl (.cons .here rfl (.cons .here rfl (.cons .here rfl (.cons .here rfl .nil))))) (.cons (.there .here) rfl (.cons (.there .here) rfl (.cons (.there .here) rfl (.cons (.there .here) rfl .nil)))) rfl ?_))
        refine RunA.val (i := 6) rfl (by kernel_rfl) (by kernel_rfl) (Val.pure rfl) rfl rfl rfl (fun _ _ _ h => h) (.cons .here rfl (.cons .here rfl (.cons .here rfl (.cons .here rfl (.cons .here rfl .nil))))) rfl ?_
        refine RunA.toB (by kernel_rfl) ?_
        refine RunB.one (i := 7) (by kernel_rfl) ?_
        refine RunI.val rfl (Val.pure rfl) rfl rfl rfl (RunK.toB ?_)
        refine RunB.done (by kernel_rfl) ?_
        exact RunE.joinX ((b59, p59), (b62, p62)) trivial rfl (Sub.consE (t := 12) rfl rfl (Sub.consE (t := 13) rfl rfl (Sub.cons (t := 1) rfl (Sub.cons (t := 2) rfl (Sub.cons (t := 3) rfl (Sub.cons (t := 7) rfl (Sub.cons (t := 8) rfl (Sub.cons (t := 9) rfl (Sub.nil _))))))))) (.cons .here rfl (.cons .here rfl (.cons .here rfl (.cons .here rfl (.cons .here rfl .nil)))))
    · intro y yI
      obtain ⟨⟨b59, p59⟩, ⟨b62, p62⟩⟩ := y
      dsimp only
      refine RunE.next ?_
      refine RunC.seq ?_
      refine RunC.region ?_
      refine RunL.val (Val.pure rfl) rfl rfl rfl ?_
      refine RunL.val (Val.convInt rfl und_5 und_3 (IntWalk.i64_in _ ⟨by omega, by omega⟩)) rfl rfl rfl ?_
      refine RunL.val (Val.pure rfl) rfl rfl rfl ?_
      refine RunL.val (Val.len_sl rfl sl_47) rfl rfl rfl ?_
      refine RunL.val (Val.remN (a := a) (b := xe.title.length) rfl rfl (by omega)) rfl rfl rfl ?_
      refine RunL.val (Val.pure rfl) rfl rfl rfl ?_
      refine RunL.nil ?_
      refine RunE.next ?_
      refine RunC.seq ?_
      refine RunC.region ?_
      rw [haK]
      refine RunL.val (Val.pure rfl) rfl rfl rfl ?_
      refine RunL.val (Val.pure rfl) rfl rfl rfl ?_
      refine RunL.val (Val.indexAddr_sl rfl rfl sl_47 (by omega) (by omega)) rfl rfl rfl ?_
      refine RunL.sto (Sto.storeB (cs := xe.title.map byteV ++ List.replicate p59 (Value.int IntKind.u8 0)) rfl rfl .here ty_5 rfl (by simp; omega) (by simp; omega)) rfl rfl ?_
      refine RunL.nil ?_
      refine RunE.next ?_
      refine RunC.seq ?_
      refine RunC.region ?_
      iterate 4 refine RunL.val (Val.pure rfl) rfl rfl rfl ?_
      refine RunL.val (Val.indexAddr_sl rfl rfl sl_47 (by omega) (by omega)) rfl rfl rfl ?_
      refine RunL.val (Val.load_gen rfl (fun w hm => (bytes_sl (hm.at (.tail _ (.head _)))).loadM1 (by decide) (Mem.refl w) (by simp) ty_5 hKl (v := byteV v) (by simp [hv]))) rfl rfl rfl ?_
      refine RunL.val (Val.subN (a := v.toNat) (b := 97) (v.toNat - 97) rfl rfl (by omega) (u8_inN (by omega))) rfl rfl rfl ?_
      refine RunL.val (Val.addN (a := v.toNat - 97) (b := 1) (v.toNat - 97 + 1) rfl rfl rfl (u8_inN (by omega))) rfl rfl rfl ?_
      refine RunL.val (Val.remN (a := v.toNat - 97 + 1) (b := 26) rfl rfl (by omega)) rfl rfl rfl ?_
      refine RunL.val (Val.addN (a := 97) (b := (v.toNat - 97 + 1) % 26) (97 + (v.toNat - 97 + 1) % 26) rfl rfl rfl (u8_inN (by omega))) rfl rfl rfl ?_
      refine RunL.val (Val.indexAddr_sl rfl rfl sl_47 (by omega) (by omega)) rfl rfl rfl ?_
      refine RunL.sto (Sto.storeB (cs := xe.title.map byteV ++ List.replicate p62 (Value.int IntKind.u8 0)) rfl rfl (.there .here) ty_5 rfl (by simp; omega) (by simp; omega)) rfl rfl ?_
      refine RunL.nil ?_
      refine RunE.next ?_
      refine RunC.seq ?_
      refine RunC.draw 26 fol_ (.cons .here rfl (.cons .here rfl (.cons .here rfl (.cons .here rfl (.cons .here rfl .nil))))) ?_
      refine RunA.val (i := 0) rfl (by kernel_rfl) (by kernel_rfl) (Val.fieldAddr rfl fld_56_0) rfl rfl rfl (fun _ _ _ h => h) (.cons .here rfl (.cons .here rfl (.cons .here rfl (.cons .here rfl (.cons .here rfl .nil))))) rfl ?_
      refine RunA.val (i := 1) rfl (by kernel_rfl) (by kernel_rfl) (Val.load_one rfl (.tail _ (.tail _ (.head _))) ty_3 rfl) rfl rfl rfl (fun _ _ _ h => h) (.cons .here rfl (.cons .here rfl (.cons .here rfl (.cons .here rfl (.cons .here rfl .nil))))) rfl ?_
      refine RunA.val (i := 2) rfl (by kernel_rfl) (by kernel_rfl) (Val.fieldAddr rfl fld_56_1) rfl rfl rfl (fun _ _ _ h => h) (.cons .here rfl (.cons .here rfl (.cons .here rfl (.cons .here rfl (.cons .here rfl .nil))))) rfl ?_
      refine RunA.val (i := 3) rfl (by kernel_rfl) (by kernel_rfl) (Val.load_one rfl (.tail _ (.tail _ (.head _))) ty_9 rfl) rfl rfl rfl (fun _ _ _ h => h) (.cons .here rfl (.cons .here rfl (.cons .here rfl (.cons .here rfl (.cons .here rfl .nil))))) rfl ?_
      refine RunA.val (i := 4) rfl (by kernel_rfl) (by kernel_rfl) (Val.fieldAddr rfl fld_56_2) rfl rfl rfl (fun _ _ _ h => h) (.cons .here rfl (.cons .here rfl (.cons .here rfl (.cons .here rfl (.cons .here rfl .nil))))) rfl ?_
      refine RunA.val (i := 5) rfl (by kernel_rfl) (by kernel_rfl) (Val.load_one rfl (.tail _ (.tail _ (.head _))) ty_9 rfl) rfl rfl rfl (fun _ _ _ h => h) (.cons .here rfl (.cons .here rfl (.cons .here rfl (.cons .here rfl (.cons .here rfl .nil))))) rfl ?_
      refine RunA.val (i := 6) rfl (by kernel_rfl) (by kernel_rfl) (Val.build (parts := [(0, .tmp 83), (1, .tmp 85), (2, .tmp 87)]) rfl zero_50 places_50 rfl) rfl rfl rfl (fun _ _ _ h => h) (.cons .here rfl (.cons .here rfl (.cons .here rfl (.cons .here rfl (.cons .here rfl .nil))))) rfl ?_
      refine RunA.val (i := 7) rfl (by kernel_rfl) (by kernel_rfl) (Val.fieldAddr rfl fld_56_1) rfl rfl rfl (fun _ _ _ h => h) (.cons .here rfl (.cons .here rfl (.cons .here rfl (.cons .here rfl (.cons .here rfl .nil))))) rfl ?_
      refine RunA.val (i := 8) rfl (by kernel_rfl) (by kernel_rfl) (Val.load_one rfl (.tail _ (.tail _ (.head _))) ty_9 rfl) rfl rfl rfl (fun _ _ _ h => h) (.cons .here rfl (.cons .here rfl (.cons .here rfl (.cons .here rfl (.cons .here rfl .nil))))) rfl ?_
      refine RunA.val (i := 9) rfl (by kernel_rfl) (by kernel_rfl) (Val.pure rfl) rfl rfl rfl (fun _ _ _ h => h) (.cons .here rfl (.cons .here rfl (.cons .here rfl (.cons .here rfl (.cons .here rfl .nil))))) rfl ?_
      refine RunA.val (i := 10) rfl (by kernel_rfl) (by kernel_rfl) (Val.bytesStrN (xe.title.set K 63) (by simp) rfl sls_47 und_5 und_9 (fun w hm => bytes_sl (by have h9 := hm.at (.head _); rw [bytes_set (c := 63) (v := 63) hKl (by rfl)] at h9; exact h9))) rfl rfl rfl (fun _ _ _ h => h) (.cons .here rfl (.cons .here rfl (.cons .here rfl (.cons .here rfl (.cons .here rfl .nil))))) rfl ?_
      refine RunA.val (i := 11) rfl (by kernel_rfl) (by kernel_rfl) (Val.build (parts := [(1, .tmp 90), (2, .tmp 92)]) rfl zero_50 places_50 rfl) rfl rfl rfl (fun _ _ _ h => h) (.cons .here rfl (.cons .here rfl (.cons .here rfl (.cons .here rfl (.cons .here rfl .nil))))) rfl ?_
      refine RunA.val (i := 12) rfl (by kernel_rfl) (by kernel_rfl) (Val.fieldAddr rfl fld_56_1) rfl rfl rfl (fun _ _ _ h => h) (.cons .here rfl (.cons .here rfl (.cons .here rfl (.cons .here rfl (.cons .here rfl .nil))))) rfl ?_
      refine RunA.val (i := 13) rfl (by kernel_rfl) (by kernel_rfl) (Val.load_one rfl (.tail _ (.tail _ (.head _))) ty_9 rfl) rfl rfl rfl (fun _ _ _ h => h) (.cons .here rfl (.cons .here rfl (.cons .here rfl (.cons .here rfl (.cons .here rfl .nil))))) rfl ?_
      refine RunA.val (i := 14) rfl (by kernel_rfl) (by kernel_rfl) (Val.pure rfl) rfl rfl rfl (fun _ _ _ h => h) (.cons .here rfl (.cons .here rfl (.cons .here rfl (.cons .here rfl (.cons .here rfl .nil))))) rfl ?_
      refine RunA.val (i := 15) rfl (by kernel_rfl) (by kernel_rfl) (Val.bytesStrN (xe.title.set K c') (by simp) rfl sls_47 und_5 und_9 (fun w hm => bytes_sl (by have h9 := hm.at (.tail _ (.head _)); rw [bytes_set hKl hcv] at h9; exact h9))) rfl rfl rfl (fun _ _ _ h => h) (.cons .here rfl (.cons .here rfl (.cons .here rfl (.cons .here rfl (.cons .here rfl .nil))))) rfl ?_
      refine RunA.val (i := 16) rfl (by kernel_rfl) (by kernel_rfl) (Val.build (parts := [(1, .tmp 95), (2, .tmp 97)]) rfl zero_50 places_50 rfl) rfl rfl rfl (fun _ _ _ h => h) (.cons .here rfl (.cons .here rfl (.cons .here rfl (.cons .here rfl (.cons .here rfl .nil))))) rfl ?_
      refine RunA.val (i := 17) rfl (by kernel_rfl) (by kernel_rfl) (Val.build (parts := [(1, .const (.string ⟨#[42]⟩)), (2, .const (.string ⟨#[42]⟩))]) rfl zero_50 places_50 rfl) rfl rfl rfl (fun _ _ _ h => h) (.cons .here rfl (.cons .here rfl (.cons .here rfl (.cons .here rfl (.cons .here rfl .nil))))) rfl ?_
      refine RunA.val (i := 18) rfl (by kernel_rfl) (by kernel_rfl) (Val.fieldAddr rfl fld_56_0) rfl rfl rfl (fun _ _ _ h => h) (.cons .here rfl (.cons .here rfl (.cons .here rfl (.cons .here rfl (.cons .here rfl .nil))))) rfl ?_
      refine RunA.val (i := 19) rfl (by kernel_rfl) (by kernel_rfl) (Val.load_one rfl (.tail _ (.tail _ (.head _))) ty_3 rfl) rfl rfl rfl (fun _ _ _ h => h) (.cons .here rfl (.cons .here rfl (.cons .here rfl (.cons .here rfl (.cons .here rfl .nil))))) rfl ?_
      refine RunA.val (i := 20) rfl (by kernel_rfl) (by kernel_rfl) (Val.fieldAddr rfl fld_56_2) rfl rfl rfl (fun _ _ _ h => h) (.cons .here rfl (.cons .here rfl (.cons .here rfl (.cons .here rfl (.cons .here rfl .nil))))) rfl ?_
      refine RunA.val (i := 21) rfl (by kernel_rfl) (by kernel_rfl) (Val.load_one rfl (.tail _ (.tail _ (.head _))) ty_9 rfl) rfl rfl rfl (fun _ _ _ h => h) (.cons .here rfl (.cons .here rfl (.cons .here rfl (.cons .here rfl (.cons .here rfl .nil))))) rfl ?_
      refine RunA.val (i := 22) rfl (by kernel_rfl) (by kernel_rfl) (Val.pure rfl) rfl rfl rfl (fun _ _ _ h => h) (.cons .here rfl (.cons .here rfl (.cons .here rfl (.cons .here rfl (.cons .here rfl .nil))))) rfl ?_
      refine RunA.val (i := 23) rfl (by kernel_rfl) (by kernel_rfl) (Val.strTo (l := xe.title) (b := K) rfl rfl und_9 (by omega)) rfl rfl rfl (fun _ _ _ h => h) (.cons .here rfl (.cons .here rfl (.cons .here rfl (.cons .here rfl (.cons .here rfl .nil))))) rfl ?_
      refine RunA.val (i := 24) rfl (by kernel_rfl) (by kernel_rfl) (Val.strAdd rfl rfl (by simp; omega)) rfl rfl rfl (fun _ _ _ h => h) (.cons .here rfl (.cons .here rfl (.cons .here rfl (.cons .here rfl (.cons .here rfl .nil))))) rfl ?_
      refine RunA.val (i := 25) rfl (by kernel_rfl) (by kernel_rfl) (Val.build (parts := [(0, .tmp 101), (1, .const (.string ⟨#[42]⟩)), (2, .tmp 106)]) rfl zero_50 places_50 rfl) rfl rfl rfl (fun _ _ _ h => h) (.cons .here rfl (.cons .here rfl (.cons .here rfl (.cons .here rfl (.cons .here rfl .nil))))) rfl ?_
      refine RunA.toB (by kernel_rfl) ?_
      refine RunB.one (i := 26) (by kernel_rfl) ?_
      refine RunI.new rfl (New.buildSlice (parts := [(0, .tmp 88), (1, .tmp 93), (2, .tmp 98), (3, .tmp 99), (4, .tmp 107)]) rfl sl_23 zero_50 rfl rfl rfl rfl) rfl rfl rfl (fun b108 => (RunK.toB ?_))
      refine RunB.one (i := 27) (by kernel_rfl) ?_
      refine RunI.val rfl (Val.fieldAddr rfl fld_25_1) rfl rfl rfl (RunK.toB ?_)
      refine RunB.one (i := 28) (by kernel_rfl) ?_
      refine RunI.sto rfl (Sto.store rfl rfl (.there (.there (.there (.there (.there .here))))) ty_23 rfl rfl) rfl rfl (RunK.toB ?_)
      refine RunB.done (by kernel_rfl) ?_
      refine RunE.next ?_
      refine RunC.seq ?_
      refine RunC.region ?_
      refine RunL.val (Val.pure rfl) rfl rfl rfl ?_
      refine RunL.nil ?_
      refine RunE.next ?_
      refine RunC.seq ?_
      refine RunC.seq ?_
      refine RunC.region ?_
      refine RunL.val (Val.fieldAddr rfl fld_25_1) rfl rfl rfl ?_
      refine RunL.val (Val.load_one rfl (.tail _ (.tail _ (.tail _ (.tail _ (.tail _ (.head _)))))) ty_23 rfl) rfl rfl rfl ?_
      refine RunL.val (Val.len_sl rfl sl_23) rfl rfl rfl ?_
      refine RunL.val (Val.pure rfl) rfl rfl rfl ?_
      refine RunL.nil ?_
      refine RunE.next ?_
      refine RunC.block ?_
      refine RunC.loopX (X := Eng.Own) (n0 := [(b108, _), (b59, _), (b62, _), (b8, _), (b29.1, _), (b3, _)]) (5) (fun k x q => (113, .int .i64 (k : Int)) :: (15, ownV x k) :: q) (fun _ _ => _) (fun k x => []) (fun k x => ownB 3 x (intsW (natI ([s0, s1, s2, s3, s4].take k))).flatten ++ []) (fun k x => OwnOk 1 x k (intsW (natI ([s0, s1, s2, s3, s4].take k))).flatten) none OwnOk.start rfl (Sub.consE (t := 113) rfl rfl (Sub.consE (t := 15) rfl rfl (Sub.cons (t := 3) rfl (Sub.cons (t := 7) rfl (Sub.cons (t := 9) rfl (Sub.cons (t := 111) rfl (Sub.cons (t := 112) rfl (Sub.nil _)))))))) (.cons .here rfl (.cons .here rfl (.cons .here rfl (.cons .here rfl (.cons .here rfl (.cons .here rfl (Pick.same rfl))))))) ?_
      intro k x kN kI
      have hx1 := kI
      refine RunC.seq ?_
      refine RunC.region ?_
      refine RunL.val (Val.pure rfl) rfl rfl rfl ?_
      refine RunL.nil ?_
      refine RunE.next ?_
      refine RunC.seq ?_
      refine RunC.cond rfl ?_ ?_
      · intro c4
        have c4' := c4; clear c4
        try simp only [decide_eq_true_eq, decide_eq_false_iff_not, Bool.not_eq_true', Bool.not_eq_false', Bool.and_eq_true, Bool.or_eq_true, Bool.and_eq_false_iff, Bool.or_eq_false_iff, Int.not_le, Int.not_lt] at c4'
        have hk : k < [s0, s1, s2, s3, s4].length := by (show k < 5; omega)
        obtain ⟨f, hfk⟩ : ∃ f, [s0, s1, s2, s3, s4][k] = f := ⟨_, rfl⟩
        refine RunC.skip ?_
        refine RunE.next ?_
        refine RunC.seq ?_
        refine RunC.block ?_
        refine RunC.seq ?_
        refine RunC.region ?_
        refine RunL.val (Val.pure rfl) rfl rfl rfl ?_
        refine RunL.val (Val.pure rfl) rfl rfl rfl ?_
        refine RunL.nil ?_
        refine RunE.next ?_
        refine RunC.seq ?_
        refine RunC.region ?_
        refine RunL.val (Val.load_agg rfl (.tail _ (.tail _ (.tail _ (.tail _ (.tail _ (.head _)))))) ty_25 rfl) rfl rfl rfl ?_
        refine RunL.val (Val.pure rfl) rfl rfl rfl ?_
        refine RunL.callP (isCall_func rfl ent_14) rfl rfl rfl (fun w hm => (by have h9 := fits_calls (fiveA m (cards5 xe K c') b108) (hS1 b108) (k : Int) w ⟨(hM0.mono0 hm).bx, (hM0.mono0 hm).ti, Sl.rows (hm.at (.head _)) tn_rows⟩; rw [fits_at (hX1 b108) (f := f) (by rw [hFS]; exact hk) (by simp only [hFS]; exact hfk)] at h9; exact h9)) ?_
        iterate 5 refine RunL.val (Val.pure rfl) rfl rfl rfl ?_
        refine RunL.nil ?_
        refine RunE.next ?_
        refine RunC.seq ?_
        refine RunC.seq ?_
        refine RunC.region ?_
        refine RunL.val (Val.pure rfl) rfl rfl rfl ?_
        refine RunL.val (Val.pure rfl) rfl rfl rfl ?_
        refine RunL.nil ?_
        refine RunE.next ?_
        refine RunC.cond rfl (fun h => absurd h (by simp)) ?_
        intro c5
        clear c5
        refine RunC.skip ?_
        refine RunE.next ?_
        refine RunC.region ?_
        refine RunL.val (Val.pure rfl) rfl rfl rfl ?_
        refine RunL.val (Val.pure rfl) rfl rfl rfl ?_
        refine RunL.new (New.buildSlice (parts := [(0, .tmp 125)]) rfl sl_34 zero_3 rfl rfl rfl rfl) rfl rfl rfl (fun b126 => ?_)
        refine RunL.append (A := [(b126, _), (b108, _), (b59, _), (b62, _), (b8, _), (b29.1, _), (b3, _)]) (B := _) (x := x) (ys := [.int .i64 (f : Int)]) ap_34 rfl rfl rfl hx1 rfl (fun h => by cases h) (fun w hm => src_blk (hm.at (.head _))) (one_of rfl) (by simp only [maxLen]; omega) (by omega) rfl (fun z127 hz127 => ?_)
        refine RunL.val (Val.pure rfl) rfl rfl rfl ?_
        refine RunL.nil ?_
        refine RunE.block_normal ?_
        refine RunE.next ?_
        refine RunC.region ?_
        refine RunL.val (Val.add rfl rfl (IntWalk.i64_in _ ⟨by omega, by omega⟩)) rfl rfl rfl ?_
        refine RunL.val (Val.pure rfl) rfl rfl rfl ?_
        refine RunL.nil ?_
        exact RunE.roundX z127 (by omega) (by rw [List.take_succ_eq_append_getElem hk, hfk, nat_snoc]; exact hz127) rfl (Sub.consE (t := 113) rfl rfl (Sub.consE (t := 15) rfl rfl (Sub.cons (t := 3) rfl (Sub.cons (t := 7) rfl (Sub.cons (t := 9) rfl (Sub.cons (t := 111) rfl (Sub.cons (t := 112) rfl (Sub.nil _)))))))) (.cons (.there .here) rfl (.cons (.there .here) rfl (.cons (.there .here) rfl (.cons (.there .here) rfl (.cons (.there .here) rfl (.cons (.there .here) rfl (Pick.skip (Pick.same (by rw [List.take_succ_eq_append_getElem hk, hfk, nat_snoc])))))))))
      · intro c4
        have c4' := c4; clear c4
        try simp only [decide_eq_true_eq, decide_eq_false_iff_not, Bool.not_eq_true', Bool.not_eq_false', Bool.and_eq_true, Bool.or_eq_true, Bool.and_eq_false_iff, Bool.or_eq_false_iff, Int.not_le, Int.not_lt] at c4'
        obtain rfl : k = 5 := by omega
        refine RunC.exit ?_
        refine RunE.pass_exit ?_
        refine RunE.pass_exit ?_
        refine RunE.block_here ?_
        refine RunE.next ?_
        refine RunC.seq ?_
        obtain ⟨bx1, cx1, rx1, rfl, lx11, lx12, lx13⟩ := hx1.has (by decide)
        refine RunC.draw 39 fol_ (.cons .here rfl (.cons .here rfl (.cons .here rfl (.cons .here rfl (.cons .here rfl (.cons .here rfl (.cons .here rfl .nil))))))) ?_
        refine RunA.val (i := 0) rfl (by kernel_rfl) (by kernel_rfl) (Val.pure rfl) rfl rfl rfl (fun _ _ _ h => h) (.cons .here rfl (.cons .here rfl (.cons .here rfl (.cons .here rfl (.cons .here rfl (.cons .here rfl (.cons .here rfl .nil))))))) rfl ?_
        refine RunA.val (i := 1) rfl (by kernel_rfl) (by kernel_rfl) (Val.indexAddr_slp rfl rfl sl_34 (by omega) (by omega) rfl) rfl rfl rfl (fun _ _ _ h => h) (.cons .here rfl (.cons .here rfl (.cons .here rfl (.cons .here rfl (.cons .here rfl (.cons .here rfl (.cons .here rfl .nil))))))) rfl ?_
        refine RunA.val (i := 2) rfl (by kernel_rfl) (by kernel_rfl) (Val.load_gen rfl (fun w hm => (Sl.rowsR (xs := intsW (natI [s0, s1, s2, s3, s4])) (t := rx1) (hm.at (.tail _ (.tail _ (.tail _ (.tail _ (.tail _ (.tail _ (.head _)))))))) (ints_row _)).loadM1 (by decide) (Mem.refl w) (by simp) ty_3 (i := 0) (by show 0 < 5; decide) (v := .int .i64 (s0 : Int)) rfl)) rfl rfl rfl (fun _ _ _ h => h) (.cons .here rfl (.cons .here rfl (.cons .here rfl (.cons .here rfl (.cons .here rfl (.cons .here rfl (.cons .here rfl .nil))))))) rfl ?_
        refine RunA.val (i := 3) rfl (by kernel_rfl) (by kernel_rfl) (Val.pure rfl) rfl rfl rfl (fun _ _ _ h => h) (.cons .here rfl (.cons .here rfl (.cons .here rfl (.cons .here rfl (.cons .here rfl (.cons .here rfl (.cons .here rfl .nil))))))) rfl ?_
        refine RunA.val (i := 4) rfl (by kernel_rfl) (by kernel_rfl) (Val.pure rfl) rfl rfl rfl (fun _ _ _ h => h) (.cons .here rfl (.cons .here rfl (.cons .here rfl (.cons .here rfl (.cons .here rfl (.cons .here rfl (.cons .here rfl .nil))))))) rfl ?_
        refine RunA.val (i := 5) rfl (by kernel_rfl) (by kernel_rfl) (Val.pure rfl) rfl rfl rfl (fun _ _ _ h => h) (.cons .here rfl (.cons .here rfl (.cons .here rfl (.cons .here rfl (.cons .here rfl (.cons .here rfl (.cons .here rfl .nil))))))) rfl ?_
        refine RunA.sure (dj := 134) true rfl (by simp [hF.h0]) ?_
        refine RunA.val (i := 6) rfl (by kernel_rfl) (by kernel_rfl) (Val.pure rfl) rfl rfl rfl (fun _ _ _ h => h) (.cons .here rfl (.cons .here rfl (.cons .here rfl (.cons .here rfl (.cons .here rfl (.cons .here rfl (.cons .here rfl .nil))))))) rfl ?_
        refine RunA.val (i := 7) rfl (by kernel_rfl) (by kernel_rfl) (Val.indexAddr_slp rfl rfl sl_34 (by omega) (by omega) rfl) rfl rfl rfl (fun _ _ _ h => h) (.cons .here rfl (.cons .here rfl (.cons .here rfl (.cons .here rfl (.cons .here rfl (.cons .here rfl (.cons .here rfl .nil))))))) rfl ?_
        refine RunA.val (i := 8) rfl (by kernel_rfl) (by kernel_rfl) (Val.load_gen rfl (fun w hm => (Sl.rowsR (xs := intsW (natI [s0, s1, s2, s3, s4])) (t := rx1) (hm.at (.tail _ (.tail _ (.tail _ (.tail _ (.tail _ (.tail _ (.head _)))))))) (ints_row _)).loadM1 (by decide) (Mem.refl w) (by simp) ty_3 (i := 1) (by show 1 < 5; decide) (v := .int .i64 (s1 : Int)) rfl)) rfl rfl rfl (fun _ _ _ h => h) (.cons .here rfl (.cons .here rfl (.cons .here rfl (.cons .here rfl (.cons .here rfl (.cons .here rfl (.cons .here rfl .nil))))))) rfl ?_
        refine RunA.val (i := 9) rfl (by kernel_rfl) (by kernel_rfl) (Val.pure rfl) rfl rfl rfl (fun _ _ _ h => h) (.cons .here rfl (.cons .here rfl (.cons .here rfl (.cons .here rfl (.cons .here rfl (.cons .here rfl (.cons .here rfl .nil))))))) rfl ?_
        refine RunA.val (i := 10) rfl (by kernel_rfl) (by kernel_rfl) (Val.and (a := s1) (b := sameX l xe) rfl rfl (by show _ < 18446744073709551616; omega) (by show _ < 18446744073709551616; omega) (i64_inN (by omega))) rfl rfl rfl (fun _ _ _ h => h) (.cons .here rfl (.cons .here rfl (.cons .here rfl (.cons .here rfl (.cons .here rfl (.cons .here rfl (.cons .here rfl .nil))))))) rfl ?_
        refine RunA.val (i := 11) rfl (by kernel_rfl) (by kernel_rfl) (Val.pure rfl) rfl rfl rfl (fun _ _ _ h => h) (.cons .here rfl (.cons .here rfl (.cons .here rfl (.cons .here rfl (.cons .here rfl (.cons .here rfl (.cons .here rfl .nil))))))) rfl ?_
        refine RunA.val (i := 12) rfl (by kernel_rfl) (by kernel_rfl) (Val.pure rfl) rfl rfl rfl (fun _ _ _ h => h) (.cons .here rfl (.cons .here rfl (.cons .here rfl (.cons .here rfl (.cons .here rfl (.cons .here rfl (.cons .here rfl .nil))))))) rfl ?_
        refine RunA.val (i := 13) rfl (by kernel_rfl) (by kernel_rfl) (Val.pure rfl) rfl rfl rfl (fun _ _ _ h => h) (.cons .here rfl (.cons .here rfl (.cons .here rfl (.cons .here rfl (.cons .here rfl (.cons .here rfl (.cons .here rfl .nil))))))) rfl ?_
        refine RunA.val (i := 14) rfl (by kernel_rfl) (by kernel_rfl) (Val.pure rfl) rfl rfl rfl (fun _ _ _ h => h) (.cons .here rfl (.cons .here rfl (.cons .here rfl (.cons .here rfl (.cons .here rfl (.cons .here rfl (.cons .here rfl .nil))))))) rfl ?_
        refine RunA.sure (dj := 143) true rfl (by simp [hF.h1]) ?_
        refine RunA.val (i := 15) rfl (by kernel_rfl) (by kernel_rfl) (Val.pure rfl) rfl rfl rfl (fun _ _ _ h => h) (.cons .here rfl (.cons .here rfl (.cons .here rfl (.cons .here rfl (.cons .here rfl (.cons .here rfl (.cons .here rfl .nil))))))) rfl ?_
        refine RunA.val (i := 16) rfl (by kernel_rfl) (by kernel_rfl) (Val.indexAddr_slp rfl rfl sl_34 (by omega) (by omega) rfl) rfl rfl rfl (fun _ _ _ h => h) (.cons .here rfl (.cons .here rfl (.cons .here rfl (.cons .here rfl (.cons .here rfl (.cons .here rfl (.cons .here rfl .nil))))))) rfl ?_
        refine RunA.val (i := 17) rfl (by kernel_rfl) (by kernel_rfl) (Val.load_gen rfl (fun w hm => (Sl.rowsR (xs := intsW (natI [s0, s1, s2, s3, s4])) (t := rx1) (hm.at (.tail _ (.tail _ (.tail _ (.tail _ (.tail _ (.tail _ (.head _)))))))) (ints_row _)).loadM1 (by decide) (Mem.refl w) (by simp) ty_3 (i := 2) (by show 2 < 5; decide) (v := .int .i64 (s2 : Int)) rfl)) rfl rfl rfl (fun _ _ _ h => h) (.cons .here rfl (.cons .here rfl (.cons .here rfl (.cons .here rfl (.cons .here rfl (.cons .here rfl (.cons .here rfl .nil))))))) rfl ?_
        refine RunA.val (i := 18) rfl (by kernel_rfl) (by kernel_rfl) (Val.pure rfl) rfl rfl rfl (fun _ _ _ h => h) (.cons .here rfl (.cons .here rfl (.cons .here rfl (.cons .here rfl (.cons .here rfl (.cons .here rfl (.cons .here rfl .nil))))))) rfl ?_
        refine RunA.val (i := 19) rfl (by kernel_rfl) (by kernel_rfl) (Val.and (a := s2) (b := sameX l xe) rfl rfl (by show _ < 18446744073709551616; omega) (by show _ < 18446744073709551616; omega) (i64_inN (by omega))) rfl rfl rfl (fun _ _ _ h => h) (.cons .here rfl (.cons .here rfl (.cons .here rfl (.cons .here rfl (.cons .here rfl (.cons .here rfl (.cons .here rfl .nil))))))) rfl ?_
        refine RunA.val (i := 20) rfl (by kernel_rfl) (by kernel_rfl) (Val.pure rfl) rfl rfl rfl (fun _ _ _ h => h) (.cons .here rfl (.cons .here rfl (.cons .here rfl (.cons .here rfl (.cons .here rfl (.cons .here rfl (.cons .here rfl .nil))))))) rfl ?_
        refine RunA.val (i := 21) rfl (by kernel_rfl) (by kernel_rfl) (Val.pure rfl) rfl rfl rfl (fun _ _ _ h => h) (.cons .here rfl (.cons .here rfl (.cons .here rfl (.cons .here rfl (.cons .here rfl (.cons .here rfl (.cons .here rfl .nil))))))) rfl ?_
        refine RunA.val (i := 22) rfl (by kernel_rfl) (by kernel_rfl) (Val.pure rfl) rfl rfl rfl (fun _ _ _ h => h) (.cons .here rfl (.cons .here rfl (.cons .here rfl (.cons .here rfl (.cons .here rfl (.cons .here rfl (.cons .here rfl .nil))))))) rfl ?_
        refine RunA.sure (dj := 151) true rfl (by simp [hF.h2]) ?_
        refine RunA.val (i := 23) rfl (by kernel_rfl) (by kernel_rfl) (Val.pure rfl) rfl rfl rfl (fun _ _ _ h => h) (.cons .here rfl (.cons .here rfl (.cons .here rfl (.cons .here rfl (.cons .here rfl (.cons .here rfl (.cons .here rfl .nil))))))) rfl ?_
        refine RunA.val (i := 24) rfl (by kernel_rfl) (by kernel_rfl) (Val.indexAddr_slp rfl rfl sl_34 (by omega) (by omega) rfl) rfl rfl rfl (fun _ _ _ h => h) (.cons .here rfl (.cons .here rfl (.cons .here rfl (.cons .here rfl (.cons .here rfl (.cons .here rfl (.cons .here rfl .nil))))))) rfl ?_
        refine RunA.val (i := 25) rfl (by kernel_rfl) (by kernel_rfl) (Val.load_gen rfl (fun w hm => (Sl.rowsR (xs := intsW (natI [s0, s1, s2, s3, s4])) (t := rx1) (hm.at (.tail _ (.tail _ (.tail _ (.tail _ (.tail _ (.tail _ (.head _)))))))) (ints_row _)).loadM1 (by decide) (Mem.refl w) (by simp) ty_3 (i := 3) (by show 3 < 5; decide) (v := .int .i64 (s3 : Int)) rfl)) rfl rfl rfl (fun _ _ _ h => h) (.cons .here rfl (.cons .here rfl (.cons .here rfl (.cons .here rfl (.cons .here rfl (.cons .here rfl (.cons .here rfl .nil))))))) rfl ?_
        refine RunA.val (i := 26) rfl (by kernel_rfl) (by kernel_rfl) (Val.pure rfl) rfl rfl rfl (fun _ _ _ h => h) (.cons .here rfl (.cons .here rfl (.cons .here rfl (.cons .here rfl (.cons .here rfl (.cons .here rfl (.cons .here rfl .nil))))))) rfl ?_
        refine RunA.val (i := 27) rfl (by kernel_rfl) (by kernel_rfl) (Val.len_sl rfl sl_53) rfl rfl rfl (fun _ _ _ h => h) (.cons .here rfl (.cons .here rfl (.cons .here rfl (.cons .here rfl (.cons .here rfl (.cons .here rfl (.cons .here rfl .nil))))))) rfl ?_
        refine RunA.val (i := 28) rfl (by kernel_rfl) (by kernel_rfl) (Val.shl1 (b := l.length) rfl rfl (by show _ ≤ 64; omega) (i64_inN (by omega))) rfl rfl rfl (fun _ _ _ h => h) (.cons .here rfl (.cons .here rfl (.cons .here rfl (.cons .here rfl (.cons .here rfl (.cons .here rfl (.cons .here rfl .nil))))))) rfl ?_
        refine RunA.val (i := 29) rfl (by kernel_rfl) (by kernel_rfl) (Val.subN (a := 2 ^ l.length) (b := 1) (2 ^ l.length - 1) rfl rfl (by omega) (i64_inN (by omega))) rfl rfl rfl (fun _ _ _ h => h) (.cons .here rfl (.cons .here rfl (.cons .here rfl (.cons .here rfl (.cons .here rfl (.cons .here rfl (.cons .here rfl .nil))))))) rfl ?_
        refine RunA.val (i := 30) rfl (by kernel_rfl) (by kernel_rfl) (Val.pure rfl) rfl rfl rfl (fun _ _ _ h => h) (.cons .here rfl (.cons .here rfl (.cons .here rfl (.cons .here rfl (.cons .here rfl (.cons .here rfl (.cons .here rfl .nil))))))) rfl ?_
        refine RunA.val (i := 31) rfl (by kernel_rfl) (by kernel_rfl) (Val.pure rfl) rfl rfl rfl (fun _ _ _ h => h) (.cons .here rfl (.cons .here rfl (.cons .here rfl (.cons .here rfl (.cons .here rfl (.cons .here rfl (.cons .here rfl .nil))))))) rfl ?_
        refine RunA.val (i := 32) rfl (by kernel_rfl) (by kernel_rfl) (Val.pure rfl) rfl rfl rfl (fun _ _ _ h => h) (.cons .here rfl (.cons .here rfl (.cons .here rfl (.cons .here rfl (.cons .here rfl (.cons .here rfl (.cons .here rfl .nil))))))) rfl ?_
        refine RunA.sure (dj := 161) true rfl (by simp [hF.h3]) ?_
        refine RunA.val (i := 33) rfl (by kernel_rfl) (by kernel_rfl) (Val.pure rfl) rfl rfl rfl (fun _ _ _ h => h) (.cons .here rfl (.cons .here rfl (.cons .here rfl (.cons .here rfl (.cons .here rfl (.cons .here rfl (.cons .here rfl .nil))))))) rfl ?_
        refine RunA.val (i := 34) rfl (by kernel_rfl) (by kernel_rfl) (Val.indexAddr_slp rfl rfl sl_34 (by omega) (by omega) rfl) rfl rfl rfl (fun _ _ _ h => h) (.cons .here rfl (.cons .here rfl (.cons .here rfl (.cons .here rfl (.cons .here rfl (.cons .here rfl (.cons .here rfl .nil))))))) rfl ?_
        refine RunA.val (i := 35) rfl (by kernel_rfl) (by kernel_rfl) (Val.load_gen rfl (fun w hm => (Sl.rowsR (xs := intsW (natI [s0, s1, s2, s3, s4])) (t := rx1) (hm.at (.tail _ (.tail _ (.tail _ (.tail _ (.tail _ (.tail _ (.head _)))))))) (ints_row _)).loadM1 (by decide) (Mem.refl w) (by simp) ty_3 (i := 4) (by show 4 < 5; decide) (v := .int .i64 (s4 : Int)) rfl)) rfl rfl rfl (fun _ _ _ h => h) (.cons .here rfl (.cons .here rfl (.cons .here rfl (.cons .here rfl (.cons .here rfl (.cons .here rfl (.cons .here rfl .nil))))))) rfl ?_
        refine RunA.val (i := 36) rfl (by kernel_rfl) (by kernel_rfl) (Val.pure rfl) rfl rfl rfl (fun _ _ _ h => h) (.cons .here rfl (.cons .here rfl (.cons .here rfl (.cons .here rfl (.cons .here rfl (.cons .here rfl (.cons .here rfl .nil))))))) rfl ?_
        refine RunA.val (i := 37) rfl (by kernel_rfl) (by kernel_rfl) (Val.and (a := s4) (b := sameX l xe) rfl rfl (by show _ < 18446744073709551616; omega) (by show _ < 18446744073709551616; omega) (i64_inN (by omega))) rfl rfl rfl (fun _ _ _ h => h) (.cons .here rfl (.cons .here rfl (.cons .here rfl (.cons .here rfl (.cons .here rfl (.cons .here rfl (.cons .here rfl .nil))))))) rfl ?_
        refine RunA.val (i := 38) rfl (by kernel_rfl) (by kernel_rfl) (Val.pure rfl) rfl rfl rfl (fun _ _ _ h => h) (.cons .here rfl (.cons .here rfl (.cons .here rfl (.cons .here rfl (.cons .here rfl (.cons .here rfl (.cons .here rfl .nil))))))) rfl ?_
        refine RunA.toB (by kernel_rfl) ?_
        refine RunB.one (i := 39) (by kernel_rfl) ?_
        refine RunI.val rfl (Val.pure rfl) rfl rfl rfl (RunK.toB ?_)
        refine RunB.one (i := 40) (by kernel_rfl) ?_
        refine RunI.val rfl (Val.pure rfl) rfl rfl rfl (RunK.toB ?_)
        refine RunB.one (i := 41) (by kernel_rfl) ?_
        refine RunI.val rfl (Val.pure rfl) rfl rfl rfl (RunK.toB ?_)
        refine RunB.sure (dj := 170) true rfl (by simp [hF.h4]) ?_
        refine RunB.one (i := 42) (by kernel_rfl) ?_
        refine RunI.callP rfl (isCall_func rfl ent_13) rfl rfl rfl (fun w hm => hawake_calls w) (RunK.toB ?_)
        refine RunB.one (i := 43) (by kernel_rfl) ?_
        refine RunI.val rfl (Val.pure rfl) rfl rfl rfl (RunK.toB ?_)
        refine RunB.one (i := 44) (by kernel_rfl) ?_
        refine RunI.val rfl (Val.pure rfl) rfl rfl rfl (RunK.toB ?_)
        refine RunB.done (by kernel_rfl) ?_
        refine RunE.next ?_
        refine RunC.ret ?_
        exact RunE.retP (.r1 rfl (.tmp rfl)) (by first | rfl | simp)
theorem hpieces_calls (m : MxA) (g a : Nat) (hg : g < 256) (ha : a < 256) (W : World) (hM : MOk W m) : Calls Tryd.prog 6 #[m.v, .int .u8 (g : Int), .int .u8 (a : Int)] W (Pure (.bool true) W) := by
  cases hf : farX (nilA m).pl with
  | true => exact hpieces_far m g a W hM hf
  | false =>
    cases hX : mixedX (nilA m).pl with
    | false => exact hpieces_bad m g a W hM hf hX
    | true =>
      rcases Nat.eq_zero_or_pos (esX (nilA m)).length with hn | hn
      · exact hpieces_none m g a W hM hf hX hn
      · exact hpieces_ok m g a hg ha W hM hf hX hn
end Go.Proofs.YtlhdalcipflblaaDoor
