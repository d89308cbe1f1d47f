/- Layer 10, plain: which entries a card fits of which all, or some, can be read. -/
import Derived.Test.YtlhdalcipflblaaDoorT05
set_option linter.unusedSimpArgs false
set_option linter.unusedVariables false
namespace Go.Hp
open Go Go.Eng Go.Pw1 Go.Proofs.YtlhdalcipflblaaDoor
def plainP (p : Str) : Prop := ∀ c ∈ p, c.toNat ≠ 63 ∧ c.toNat ≠ 42
theorem plain_star : ∀ {p : Str}, plainP p → starAt p = none
  | [], _ => rfl
  | a :: p, h => by
    unfold starAt
    rw [if_neg (h a (by simp)).2, plain_star fun c hc => h c (List.mem_cons_of_mem _ hc)]
    rfl
theorem plain_W : ∀ {p s : Str}, plainP p → suitsW p s = decide (p = s)
  | [], [], _ => rfl
  | [], _ :: _, _ => by simp [suitsW]
  | _ :: _, [], _ => by simp [suitsW]
  | a :: p, c :: s, h => by
    unfold suitsW
    rw [plain_W fun c hc => h c (List.mem_cons_of_mem _ hc), decide_eq_false (h a (by simp)).1, Bool.false_or]
    by_cases h1 : a = c <;> by_cases h2 : p = s <;> simp [h1, h2]
theorem plain_X {p s : Str} (h : plainP p) : suitsX p s = decide (p = s) := by
  unfold suitsX
  rw [plain_star h]
  exact plain_W h
theorem letters_plain {p : Str} (h : p.all letterX = true) : plainP p := fun c hc => by
  have := List.all_eq_true.1 h c hc
  unfold letterX at this
  simp only [Bool.and_eq_true, decide_eq_true_eq] at this
  omega
theorem letters_good {p : Str} (h : p.all letterX = true) : p.all goodX = true := by
  rw [List.all_eq_true] at h ⊢
  intro c hc
  unfold goodX
  rw [h c hc]
  rfl
theorem plain_count {p : Str} (h : plainP p) : p.countP starX = 0 := by
  rw [List.countP_eq_zero]
  intro c hc
  unfold starX
  have := (h c hc).2
  simp
  omega
theorem itoa_good : ∀ n, n < 100 → plainP (itoa n) ∧ (itoa n).all goodX = true := by
  have h : (List.range 100).all (fun n => (itoa n).all fun c => goodX c && !decide (c.toNat = 63) && !decide (c.toNat = 42)) = true := by kernel_rfl
  intro n hn
  have h1 := List.all_eq_true.1 h n (List.mem_range.2 hn)
  rw [List.all_eq_true] at h1
  refine ⟨fun c hc => ?_, List.all_eq_true.2 fun c hc => ?_⟩
  · have := h1 c hc
    simp only [Bool.and_eq_true, Bool.not_eq_true', decide_eq_false_iff_not] at this
    exact ⟨this.1.2, this.2⟩
  · have := h1 c hc
    simp only [Bool.and_eq_true] at this
    exact this.1.1
structure EnOk (x : En) : Prop where
  col : 1 ≤ x.colour ∧ x.colour ≤ 9
  let_ : x.title.all letterX = true
  len : 1 ≤ x.title.length ∧ x.title.length ≤ 12
  num : plainP x.number ∧ x.number.all goodX = true ∧ x.number.length ≤ 2
theorem boxEn_idx {c : Int} : ∀ {l : List Str} {i : Nat} {x : En}, x ∈ boxEn c i l → x.colour = c ∧ x.title ∈ l ∧ ∃ k, k ≤ i + l.length ∧ x.number = itoa k
  | [], i, x, h => by cases h
  | t :: l, i, x, h => by
    rcases List.mem_cons.1 h with rfl | h
    · exact ⟨rfl, by simp, i + 1, by simp, rfl⟩
    · obtain ⟨h1, h2, k, h3, h4⟩ := boxEn_idx h
      exact ⟨h1, List.mem_cons_of_mem _ h2, k, by simp; omega, h4⟩
theorem en_ok {m : MxA} (hX : mixedX m.pl = true) {x : En} (hx : x ∈ esX m) : EnOk x := by
  have h12 := (mixed_ok hX).2.2
  have hman : manyX (m.bxs.map (·.bx)) = (esX m).length := (entries_len _).symm
  rw [mixed_eq] at hX
  simp only [Bool.and_eq_true, Bool.not_eq_true', List.any_eq_false] at hX
  unfold esX entriesX at hx
  obtain ⟨b, hb, hx⟩ := List.mem_flatMap.1 hx
  obtain ⟨B, hB, rfl⟩ := List.mem_map.1 hb
  obtain ⟨h1, h2, k, h3, h4⟩ := boxEn_idx hx
  have h5 := hX.1.1.2 B hB
  have h6 : badBox B.bx = false := by simpa using h5
  unfold badBox at h6
  rw [Bool.or_eq_false_iff, List.any_eq_false] at h6
  have h7 : badTitle x.title = false := by simpa using h6.2 _ h2
  have h8 := many_mem hB
  unfold badTitle at h7
  rw [Bool.or_eq_false_iff, decide_eq_false_iff_not] at h7
  have h9 : within B.bx.colour 1 9 = true := by simpa using h6.1
  have h10 : within x.title.length 1 12 = true := by simpa using h7.1
  unfold within at h9 h10
  simp only [Bool.and_eq_true, decide_eq_true_eq] at h9 h10
  have hle := List.countP_le_length (p := letterX) (l := x.title)
  obtain ⟨g1, g2⟩ := itoa_good k (by omega)
  exact ⟨by rw [h1]; exact h9, by rw [all_count]; exact decide_eq_true (by omega), by omega, by rw [h4]; exact ⟨g1, g2, itoa_len k⟩⟩
/-! ## The five cards -/
def anyStr : Str := [42]
def cards5 (x : En) (k : Nat) (c' : UInt8) : List Tn := [⟨x.colour, x.number, x.title⟩, ⟨0, x.number, x.title.set k 63⟩, ⟨0, x.number, x.title.set k c'⟩, ⟨0, anyStr, anyStr⟩, ⟨x.colour, anyStr, x.title.take k ++ anyStr⟩]
theorem any_suits (s : Str) : suitsX anyStr s = true := by
  show suitsE [] [] s = true
  unfold suitsE
  simp [suitsW]
theorem head_suits {p : Str} (h : plainP p) (k : Nat) : suitsX (p.take k ++ anyStr) p = true := by
  have h2 : ∀ {q : Str}, plainP q → starAt (q ++ anyStr) = some q.length := by
    intro q
    induction q with
    | nil => intro _; rfl
    | cons a q ih =>
      intro hq
      show (if a.toNat = 42 then some 0 else (starAt (q ++ anyStr)).map (· + 1)) = _
      rw [if_neg (hq a (by simp)).2, ih fun c hc => hq c (List.mem_cons_of_mem _ hc)]
      rfl
  have h3 : plainP (p.take k) := fun c hc => h c (List.mem_of_mem_take hc)
  unfold suitsX
  rw [h2 h3]
  show suitsE ((p.take k ++ anyStr).take (p.take k).length) ((p.take k ++ anyStr).drop ((p.take k).length + 1)) p = true
  have e1 : (p.take k ++ anyStr).take (p.take k).length = p.take k := by simp
  have e2 : (p.take k ++ anyStr).drop ((p.take k).length + 1) = [] := by simp [anyStr]
  rw [e1, e2]
  unfold suitsE
  rw [plain_W h3]
  simp [suitsW]
  omega
theorem q_rf : ∀ {p : Str}, plainP p → ∀ k, Rf (p.set k 63) p
  | [], _, _ => .nil
  | a :: p, h, 0 => .cons (.inl ⟨rfl, (h a (by simp)).2⟩) (Rf.refl p)
  | a :: p, h, k + 1 => .cons (.inr rfl) (q_rf (fun c hc => h c (List.mem_cons_of_mem _ hc)) k)
theorem q_suits {p : Str} (h : plainP p) (k : Nat) : suitsX (p.set k 63) p = true := by
  refine (q_rf h k).suits ?_
  rw [plain_X h]
  simp
theorem c_suits {p : Str} (h : plainP p) {k : Nat} (hk : k < p.length) {c : UInt8} (hc : c.toNat ≠ 63 ∧ c.toNat ≠ 42) (hne : p[k] ≠ c) : suitsX (p.set k c) p = false := by
  have h1 : plainP (p.set k c) := fun a ha => by
    rcases List.mem_or_eq_of_mem_set ha with h2 | rfl
    · exact h a h2
    · exact hc
  rw [plain_X h1]
  refine decide_eq_false fun e => hne ?_
  have h2 : (p.set k c)[k]'(by simpa using hk) = c := by simp
  rw [← h2]
  congr 1
  exact e.symm
def sameX (l : List En) (x : En) : Nat := setOf (fun k => decide (l[k]? = some x)) l.length
def sameP (l : List En) (x : En) (j : Nat) : Nat := setOf (fun k => decide (l[k]? = some x)) j
theorem sameP_yes {l : List En} {x : En} {j : Nat} (hj : j < l.length) (h : l[j] = x) : sameP l x (j + 1) = sameP l x j ||| 2 ^ j := by
  show (if decide (l[j]? = some x) = true then _ else _) = _
  rw [List.getElem?_eq_getElem hj, h, if_pos (by simp)]
  rfl
theorem sameP_no {l : List En} {x : En} {j : Nat} (hj : j < l.length) (h : l[j] ≠ x) : sameP l x (j + 1) = sameP l x j := by
  show (if decide (l[j]? = some x) = true then _ else _) = _
  rw [List.getElem?_eq_getElem hj, if_neg (by simpa using h)]
  rfl
structure Five (l : List En) (x : En) (s0 s1 s2 s3 s4 : Nat) : Prop where
  h0 : s0 = sameX l x
  h1 : s1 &&& sameX l x = sameX l x
  h2 : s2 &&& sameX l x = 0
  h3 : s3 = 2 ^ l.length - 1
  h4 : s4 &&& sameX l x = sameX l x
theorem same_bit (l : List En) (x : En) (k : Nat) : (sameX l x).testBit k = decide (l[k]? = some x) := by
  unfold sameX
  rw [setOf_bit]
  by_cases hk : k < l.length
  · simp [hk]
  · simp [hk]
theorem fits_same {m : Mx} {l : List En} (hl : entriesX m.boxes = l) (t : Tn) (k : Nat) : (fitsX m t).testBit k = (l[k]?.any (fitX t)) := by rw [fits_bit, hl]
theorem five {m : Mx} {l : List En} (hl : entriesX m.boxes = l) {x : En} (hx : x ∈ l) (hok : ∀ y ∈ l, EnOk y) {k : Nat} (hk : k < x.title.length) {c : UInt8} (hc : letterX c = true) (hne : x.title[k] ≠ c) :
    ∃ s0 s1 s2 s3 s4, (cards5 x k c).map (fitsX m) = [s0, s1, s2, s3, s4] ∧ Five l x s0 s1 s2 s3 s4 := by
  have hxo := hok x hx
  have htp := letters_plain hxo.let_
  have hcp : c.toNat ≠ 63 ∧ c.toNat ≠ 42 := by
    unfold letterX at hc
    simp only [Bool.and_eq_true, decide_eq_true_eq] at hc
    omega
  have hcol0 : ∀ y ∈ l, ¬ x.colour = 0 := fun y _ => by have := hxo.col; omega
  refine ⟨_, _, _, _, _, rfl, ⟨?_, ?_, ?_, ?_, ?_⟩⟩
  · refine Nat.eq_of_testBit_eq fun j => ?_
    rw [fits_same hl, same_bit]
    cases hj : l[j]? with
    | none => simp
    | some y =>
      have hym : y ∈ l := List.mem_of_getElem? hj
      show fitX ⟨x.colour, x.number, x.title⟩ y = decide (some y = some x)
      unfold fitX
      simp only
      rw [plain_X hxo.num.1, plain_X htp, decide_eq_false (hcol0 y hym), Bool.false_or]
      rw [Bool.eq_iff_iff]
      simp only [Bool.and_eq_true, decide_eq_true_eq, Option.some.injEq]
      constructor
      · rintro ⟨⟨h1, h2⟩, h3⟩
        cases x; cases y
        simp_all
      · rintro rfl
        exact ⟨⟨rfl, rfl⟩, rfl⟩
  · refine Nat.eq_of_testBit_eq fun j => ?_
    rw [Nat.testBit_and, fits_same hl, same_bit]
    cases hj : l[j]? with
    | none => simp
    | some y =>
      by_cases e : y = x
      · subst e
        have : fitX ⟨0, y.number, y.title.set k 63⟩ y = true := by
          unfold fitX
          simp only
          rw [plain_X hxo.num.1, q_suits htp]
          simp
        show (fitX ⟨0, y.number, y.title.set k 63⟩ y && _) = _
        rw [this]
        simp
      · simp [e]
  · refine Nat.eq_of_testBit_eq fun j => ?_
    rw [Nat.testBit_and, fits_same hl, same_bit, Nat.zero_testBit]
    cases hj : l[j]? with
    | none => simp
    | some y =>
      by_cases e : y = x
      · subst e
        have : fitX ⟨0, y.number, y.title.set k c⟩ y = false := by
          unfold fitX
          simp only
          rw [c_suits htp hk hcp hne, Bool.and_false]
        show (fitX ⟨0, y.number, y.title.set k c⟩ y && _) = _
        rw [this]
        rfl
      · simp [e]
  · refine Nat.eq_of_testBit_eq fun j => ?_
    rw [fits_same hl, Nat.testBit_two_pow_sub_one]
    cases hj : l[j]? with
    | none =>
      have : l.length ≤ j := List.getElem?_eq_none_iff.1 hj
      simp; omega
    | some y =>
      have h1 := (List.getElem?_eq_some_iff.1 hj).1
      show fitX ⟨0, anyStr, anyStr⟩ y = _
      unfold fitX
      simp only
      rw [any_suits, any_suits]
      simp [h1]
  · refine Nat.eq_of_testBit_eq fun j => ?_
    rw [Nat.testBit_and, fits_same hl, same_bit]
    cases hj : l[j]? with
    | none => simp
    | some y =>
      by_cases e : y = x
      · subst e
        have : fitX ⟨y.colour, anyStr, y.title.take k ++ anyStr⟩ y = true := by
          unfold fitX
          simp only
          rw [any_suits, head_suits htp]
          simp
        show (fitX ⟨y.colour, anyStr, y.title.take k ++ anyStr⟩ y && _) = _
        rw [this]
        simp
      · simp [e]
theorem piece_of {p : Str} (hl : p.length ≤ 12) (hg : p.all goodX = true) (hs : p.countP starX ≤ 1) : pieceX p = true := (piece_iff p).2 ⟨hl, hg, hs⟩
theorem set_good {p : Str} (hg : p.all goodX = true) (hp : plainP p) {k : Nat} {c : UInt8} (hc : goodX c = true) (hs : c.toNat ≠ 42) : (p.set k c).all goodX = true ∧ (p.set k c).countP starX = 0 := by
  constructor
  · rw [List.all_eq_true] at hg ⊢
    intro a ha
    rcases List.mem_or_eq_of_mem_set ha with h2 | rfl
    · exact hg a h2
    · exact hc
  · rw [List.countP_eq_zero]
    intro a ha
    unfold starX
    rcases List.mem_or_eq_of_mem_set ha with h2 | rfl
    · have := (hp a h2).2
      simp; omega
    · simp; omega
theorem five_good {x : En} (hx : EnOk x) {k : Nat} (hk : k < x.title.length) {c : UInt8} (hc : letterX c = true) : ∀ t ∈ cards5 x k c, badCard t = false := by
  have htp := letters_plain hx.let_
  have htg := letters_good hx.let_
  have hl := hx.len
  have hcg : goodX c = true := by unfold goodX; rw [hc]; rfl
  have hcs : c.toNat ≠ 42 := by
    unfold letterX at hc
    simp only [Bool.and_eq_true, decide_eq_true_eq] at hc
    omega
  have hn : pieceX x.number = true := piece_of (by have := hx.num.2.2; omega) hx.num.2.1 (by rw [plain_count hx.num.1]; omega)
  have ha : pieceX anyStr = true := by kernel_rfl
  have hcol : within x.colour 0 9 = true := by
    unfold within
    have := hx.col
    simp; omega
  have h0 : within 0 0 9 = true := by kernel_rfl
  intro t ht
  rw [bad_iff]
  unfold cards5 at ht
  rcases List.mem_cons.1 ht with rfl | ht
  · exact ⟨hcol, hn, piece_of hl.2 htg (by rw [plain_count htp]; omega)⟩
  rcases List.mem_cons.1 ht with rfl | ht
  · obtain ⟨g1, g2⟩ := set_good (k := k) htg htp (c := 63) (by decide) (by decide)
    exact ⟨h0, hn, piece_of (by simpa using hl.2) g1 (by rw [g2]; omega)⟩
  rcases List.mem_cons.1 ht with rfl | ht
  · obtain ⟨g1, g2⟩ := set_good (k := k) htg htp hcg hcs
    exact ⟨h0, hn, piece_of (by simpa using hl.2) g1 (by rw [g2]; omega)⟩
  rcases List.mem_cons.1 ht with rfl | ht
  · exact ⟨h0, ha, ha⟩
  · rw [List.mem_singleton.1 ht]
    refine ⟨hcol, ha, piece_of ?_ ?_ ?_⟩
    · show (x.title.take k ++ anyStr).length ≤ 12
      rw [List.length_append, List.length_take]
      show min k x.title.length + 1 ≤ 12
      omega
    · show (x.title.take k ++ anyStr).all goodX = true
      rw [List.all_append, Bool.and_eq_true]
      refine ⟨?_, by decide⟩
      rw [List.all_eq_true] at htg ⊢
      exact fun a ha => htg a (List.mem_of_mem_take ha)
    · show (x.title.take k ++ anyStr).countP starX ≤ 1
      rw [List.countP_append, plain_count (fun a ha => htp a (List.mem_of_mem_take ha))]
      decide
/-- Another letter. -/
theorem next_let {v : UInt8} (h : letterX v = true) : letterX (UInt8.ofNat (97 + (v.toNat - 97 + 1) % 26)) = true ∧ v ≠ UInt8.ofNat (97 + (v.toNat - 97 + 1) % 26) := by
  unfold letterX at h
  simp only [Bool.and_eq_true, decide_eq_true_eq] at h
  obtain ⟨n, hn⟩ : ∃ n, v.toNat = n := ⟨_, rfl⟩
  have e : (UInt8.ofNat (97 + (v.toNat - 97 + 1) % 26)).toNat = 97 + (v.toNat - 97 + 1) % 26 := by
    rw [UInt8.toNat_ofNat']
    omega
  refine ⟨?_, fun h2 => ?_⟩
  · unfold letterX
    rw [e]
    simp
    omega
  · have h3 := congrArg UInt8.toNat h2
    rw [e] at h3
    omega
end Go.Hp
/- The facts on the tables of types and on the entries of functions that the walks use. Written by program. -/
set_option linter.unusedSimpArgs false
set_option linter.unusedVariables false
namespace Go.Proofs.YtlhdalcipflblaaDoor
open Go Go.Eng
theorem ent_41 : Enters Tryd.prog 41 := enters_of Tryd.func41 (by kernel_rfl) rfl
theorem ent_43 : Enters Tryd.prog 43 := enters_of Tryd.func43 (by kernel_rfl) rfl
theorem ent_50 : Enters Tryd.prog 50 := enters_of Tryd.func50 (by kernel_rfl) rfl
theorem ent_67 : Enters Tryd.prog 67 := enters_of Tryd.func67 (by kernel_rfl) rfl
theorem fld_56_0 : fieldB Tryd.prog 56 0 = some 0 := by kernel_rfl
theorem fld_56_1 : fieldB Tryd.prog 56 1 = some 1 := by kernel_rfl
theorem fld_56_2 : fieldB Tryd.prog 56 2 = some 2 := by kernel_rfl
theorem ty_56 : tyB Tryd.prog 56 = some (true, 3) := by kernel_rfl
end Go.Proofs.YtlhdalcipflblaaDoor
/- The facts on the tables of types and on the entries of functions that the walks use. Written by program. -/
set_option linter.unusedSimpArgs false
set_option linter.unusedVariables false
namespace Go.Proofs.YtlhdalcipflblaaDoor
open Go Go.Eng
theorem ent_15 : Enters Tryd.prog 15 := enters_of Tryd.func15 (by kernel_rfl) rfl
theorem ent_17 : Enters Tryd.prog 17 := enters_of Tryd.func17 (by kernel_rfl) rfl
theorem ent_49 : Enters Tryd.prog 49 := enters_of Tryd.func49 (by kernel_rfl) rfl
end Go.Proofs.YtlhdalcipflblaaDoor
/- The facts on the tables of types and on the entries of functions that the walks use. Written by program. -/
set_option linter.unusedSimpArgs false
set_option linter.unusedVariables false
namespace Go.Proofs.YtlhdalcipflblaaDoor
open Go Go.Eng
theorem eqB_56 : aggB Tryd.prog 56 = true := by kernel_rfl
theorem kl_56 (a0 : Int) (a1 : ByteArray) (a2 : ByteArray) (c0 : Int) (c1 : ByteArray) (c2 : ByteArray) : eqF Tryd.prog 8 56 [.int .i64 a0, .string a1, .string a2] [.int .i64 c0, .string c1, .string c2] = some (decide (a0 = c0) && ((a1.toList == c1.toList) && ((a2.toList == c2.toList) && true))) := by kernel_rfl
end Go.Proofs.YtlhdalcipflblaaDoor
/- The facts on the tables of types and on the entries of functions that the walks use. Written by program. -/
set_option linter.unusedSimpArgs false
set_option linter.unusedVariables false
namespace Go.Proofs.YtlhdalcipflblaaDoor
open Go Go.Eng
theorem sl_41 : slB Tryd.prog 41 = some (92, 1) := by kernel_rfl
theorem ty_41 : tyB Tryd.prog 41 = some (false, 1) := by kernel_rfl
theorem ty_92 : tyB Tryd.prog 92 = some (false, 1) := by kernel_rfl
theorem und_92 : Tryd.prog.underlying 92 = some (.int .u16) := by kernel_rfl
end Go.Proofs.YtlhdalcipflblaaDoor
/- Walks of the laws of layer 10: draws, tear. -/
set_option linter.unusedSimpArgs false
set_option linter.unusedVariables false
namespace Go.Hp
open Go Go.Eng Go.Pw1
theorem Rf.set {l l' : Str} (h : Rf l l') (hp : plainP l') : ∀ k, Rf (l.set k 63) l' := by
  induction h with
  | nil => intro k; exact .nil
  | cons h hl ih =>
    intro k
    cases k with
    | zero => exact .cons (.inl ⟨rfl, (hp _ (by simp)).2⟩) hl
    | succ k => exact .cons h (ih (fun c hc => hp c (List.mem_cons_of_mem _ hc)) k)
theorem Rf.good {l l' : Str} (h : Rf l l') (hp : plainP l') (hg : l'.all goodX = true) : l.all goodX = true ∧ l.countP starX = 0 := by
  induction h with
  | nil => exact ⟨rfl, rfl⟩
  | @cons a b _ _ h hl ih =>
    rw [List.all_cons, Bool.and_eq_true] at hg
    obtain ⟨h1, h2⟩ := ih (fun c hc => hp c (List.mem_cons_of_mem _ hc)) hg.2
    rw [List.all_cons, List.countP_cons, h1, h2]
    rcases h with ⟨h3, _⟩ | rfl
    · have e1 : goodX a = true := by unfold goodX; simp [h3]
      have e2 : starX a = false := by unfold starX; simp [h3]
      simp [e1, e2]
    · have e2 : starX a = false := by
        unfold starX
        have := (hp a (by simp)).2
        exact decide_eq_false (by omega)
      simp [hg.1, e2]
theorem torn_suits {q s : Str} (h : Rf q s) (hp : plainP s) (hg : s.all goodX = true) {f t : Nat} (hft : f ≤ t) (ht : t ≤ q.length) : suitsX (q.take f ++ [42] ++ q.drop t) s = true := by
  have hl := h.len
  have hstar : ∀ {x r : Str}, x.countP starX = 0 → starAt (x ++ [42] ++ r) = some x.length := by
    intro x r
    induction x with
    | nil => intro _; rfl
    | cons a x ih =>
      intro hx
      rw [List.countP_cons] at hx
      have h1 : starX a = false := by cases hs : starX a <;> simp_all
      have h3 : ¬ a.toNat = 42 := by
        unfold starX at h1
        rw [decide_eq_false_iff_not] at h1
        omega
      show (if a.toNat = 42 then some 0 else (starAt (x ++ [42] ++ r)).map (· + 1)) = _
      rw [if_neg h3, ih (by omega)]
      rfl
  have hc0 : (q.take f).countP starX = 0 := by
    have h1 := (h.good hp hg).2
    rw [List.countP_eq_zero] at h1 ⊢
    exact fun a ha => h1 a (List.mem_of_mem_take ha)
  have hw : suitsW q s = true := by
    refine h.suitsW ?_
    rw [plain_W hp]
    simp
  obtain ⟨w1, w2⟩ := suitsW_iff.1 hw
  unfold suitsX
  rw [hstar hc0]
  have e1 : (q.take f ++ [42] ++ q.drop t).take (q.take f).length = q.take f := by rw [List.append_assoc, List.take_left']; rfl
  have e2 : (q.take f ++ [42] ++ q.drop t).drop ((q.take f).length + 1) = q.drop t := by
    rw [List.drop_append]
    simp
  show suitsE ((q.take f ++ [42] ++ q.drop t).take (q.take f).length) ((q.take f ++ [42] ++ q.drop t).drop ((q.take f).length + 1)) s = true
  rw [e1, e2]
  simp only [suitsE, Bool.and_eq_true, decide_eq_true_eq]
  have l1 : (q.take f).length = f := by rw [List.length_take]; omega
  have l2 : (q.drop t).length = q.length - t := by rw [List.length_drop]
  refine ⟨⟨by omega, suitsW_iff.2 ⟨by rw [l1, List.length_take]; omega, fun k h1 h2 => ?_⟩⟩, suitsW_iff.2 ⟨by rw [l2, List.length_drop]; omega, fun k h1 h2 => ?_⟩⟩
  · rw [List.getElem_take, List.getElem_take]
    exact w2 k (by omega) (by omega)
  · rw [List.getElem_drop, List.getElem_drop]
    have := w2 (t + k) (by omega) (by omega)
    have e3 : s.length - (q.drop t).length = t := by omega
    simp only [e3]
    exact this
theorem torn_piece {q s : Str} (h : Rf q s) (hp : plainP s) (hg : s.all goodX = true) {f t : Nat} (hl : f + 1 + (q.length - t) ≤ 12) (hf : f ≤ q.length) : pieceX (q.take f ++ [42] ++ q.drop t) = true := by
  obtain ⟨g1, g2⟩ := h.good hp hg
  rw [List.all_eq_true] at g1
  rw [List.countP_eq_zero] at g2
  refine (piece_iff _).2 ⟨by simp; omega, ?_, ?_⟩
  · rw [List.all_append, List.all_append, Bool.and_eq_true, Bool.and_eq_true]
    exact ⟨⟨List.all_eq_true.2 fun a ha => g1 a (List.mem_of_mem_take ha), by decide⟩, List.all_eq_true.2 fun a ha => g1 a (List.mem_of_mem_drop ha)⟩
  · have c1 : (q.take f).countP starX = 0 := List.countP_eq_zero.2 fun a ha => g2 a (List.mem_of_mem_take ha)
    have c2 : (q.drop t).countP starX = 0 := List.countP_eq_zero.2 fun a ha => g2 a (List.mem_of_mem_drop ha)
    rw [List.countP_append, List.countP_append, c1, c2]
    decide
theorem whole_ok {q s : Str} (h : Rf q s) (hp : plainP s) (hg : s.all goodX = true) (hl : s.length ≤ 12) : pieceX q = true ∧ suitsX q s = true := by
  obtain ⟨g1, g2⟩ := h.good hp hg
  have := h.len
  refine ⟨(piece_iff _).2 ⟨by omega, g1, by omega⟩, h.suits ?_⟩
  rw [plain_X hp]
  simp
/-- The numbers by which all is drawn. -/
structure By (l : List Int) : Prop where
  pos : 0 < l.length
  le : l.length ≤ maxLen
  rng : ∀ v ∈ l, 0 ≤ v ∧ v ≤ 65535
abbrev u16s (l : List Int) : List (List Value) := l.map fun v => [.int .u16 v]
section
variable {P : Program} {r : Regs} {W : World} {chg news : Blks} {dst : Option Tmp} {gd : Option (Nat × Bool)} {ty : TypeId} {pos : String} {after : Array Edge}
/-- The first elements of a slice, and what is left of it behind some. -/
theorem Val.sliceTo {x y : Operand} {T e : TypeId} {b n cap sz i : Nat} {k : IntKind} (hx : rev r x = some (.slice (some ⟨b, 0, none⟩) n cap)) (hy : rev r y = some (.int k (i : Int))) (hT : slB P T = some (e, sz)) (h1 : i ≤ cap) :
    Val P r W chg news { dst, op := .slice T x none (some y) none, type := ty, pos, after, guard := gd } (.slice (some ⟨b, 0, none⟩) i cap) :=
  ⟨fun a w ha _ => by
    unfold slB at hT
    split at hT
    · rename_i e2 hu
      cases hj : P.info? e2 with
      | none => simp [hj] at hT
      | some j =>
        simp [hj] at hT
        obtain ⟨rfl, rfl⟩ := hT
        have h4 : (i : Int) ≤ (cap : Int) := by omega
        by_cases h3 : cap = 0
        · subst h3
          have h5 : i = 0 := by omega
          subst h5
          simp [execOp, ha.eval hx, ha.eval hy, Instr.sliceAt, Instr.sureAddr, Instr.slice, Instr.sliceBounds, Instr.sliceBound, asIntOf, run_underlying hu, sizeOf, typeInfo, hj]
        · simp [execOp, ha.eval hx, ha.eval hy, Instr.sliceAt, Instr.sureAddr, Instr.slice, Instr.sliceBounds, Instr.sliceBound, asIntOf, run_underlying hu, sizeOf, typeInfo, hj, h4, h3, add_plain]
          intro h9; omega
    · cases hT⟩
def fromQ (b cap i : Nat) : Option Addr := if cap = i then some ⟨b, 0, none⟩ else some ⟨b, 0 + i * 1, none⟩
theorem Val.sliceFromZ {x y : Operand} {T e : TypeId} {b n cap i : Nat} {k : IntKind} (hx : rev r x = some (.slice (some ⟨b, 0, none⟩) n cap)) (hy : rev r y = some (.int k (i : Int))) (hT : slB P T = some (e, 1)) (h1 : i ≤ n) (h2 : n ≤ cap) :
    Val P r W chg news { dst, op := .slice T x (some y) none none, type := ty, pos, after, guard := gd } (.slice (fromQ b cap i) (n - i) (cap - i)) :=
  ⟨fun a w ha _ => by
    unfold slB at hT
    split at hT
    · rename_i e2 hu
      cases hj : P.info? e2 with
      | none => simp [hj] at hT
      | some j =>
        simp [hj] at hT
        obtain ⟨rfl, hsz⟩ := hT
        have h4 : (i : Int) ≤ (n : Int) := by omega
        unfold fromQ
        by_cases h3 : cap = i
        · simp [execOp, ha.eval hx, ha.eval hy, Instr.sliceAt, Instr.sureAddr, Instr.slice, Instr.sliceBounds, Instr.sliceBound, asIntOf, run_underlying hu, sizeOf, typeInfo, hj, h4, h3]
          intro h9; omega
        · simp [execOp, ha.eval hx, ha.eval hy, Instr.sliceAt, Instr.sureAddr, Instr.slice, Instr.sliceBounds, Instr.sliceBound, asIntOf, run_underlying hu, sizeOf, typeInfo, hj, h4, h3, add_plain, hsz]
          intro h9; omega
    · cases hT⟩
end
theorem bytes_take {w : World} {b e p : Nat} {l : Str} (h : w.heap[b]? = some (bytesO e (l.map byteV) p)) (f : Nat) : Sl w (some ⟨b, 0, none⟩) b 0 1 (bytesV (l.take f)) := by
  have hS := bytes_sl h
  refine ⟨fun _ => rfl, fun x hx => by obtain ⟨a, _, rfl⟩ := List.mem_map.1 hx; rfl, fun i hi j hj => ?_⟩
  have hi2 : i < f ∧ i < l.length := by (have h9 := hi; simp [bytesV] at h9; omega)
  rw [hS.cell i (by simpa [bytesV] using hi2.2) j hj]
  simp [bytesV]
theorem bytes_from {w : World} {b e p : Nat} {l : Str} (h : w.heap[b]? = some (bytesO e (l.map byteV) p)) (cap f : Nat) (hc : l.length ≤ cap) : Sl w (fromQ b cap f) b f 1 (bytesV (l.drop f)) := by
  have hS := bytes_sl h
  refine ⟨fun hne => ?_, fun x hx => by obtain ⟨a, _, rfl⟩ := List.mem_map.1 hx; rfl, fun i hi j hj => ?_⟩
  · have : f < l.length := by
      rcases Nat.lt_or_ge f l.length with h1 | h1
      · exact h1
      · exfalso
        refine hne ?_
        rw [List.drop_of_length_le h1]
        rfl
    unfold fromQ
    rw [if_neg (by omega)]
    simp
  · have hi2 : i < l.length - f := by simpa [bytesV] using hi
    have h1 := hS.cell (f + i) (by simp [bytesV]; omega) j hj
    rw [show f + i * 1 + j = 0 + (f + i) * 1 + j by omega, h1]
    simp [bytesV]
end Go.Hp
namespace Go.Proofs.YtlhdalcipflblaaDoor
open Go Go.Eng Go.Hp Go.Pw1

theorem hdraw_calls (l : List Int) (hl : By l) (n : Int) (hn : 0 < n ∧ n ≤ 1000000) (a : Nat) (ha : a ≤ 1000000) (q : Option Addr) (b o cap bat bby : Nat) (W : World) (hat : W.heap[bat]? = some (.cells [.int .i64 (a : Int)].toArray 3 (0, 0)))
    (hby : W.heap[bby]? = some (.cells [.slice q l.length cap].toArray 41 (0, 0))) (hne : bby ≠ bat) (hbb : b ≠ bat) (hS : Sl W q b o 1 (u16s l)) :
    Calls Tryd.prog 59 #[.int .i64 n, .pointer (some ⟨bat, 0, none⟩), .pointer (some ⟨bby, 0, none⟩)] W (TurnsX bat (.cells [.int .i64 ((a + 1 : Nat) : Int)].toArray 3 (0, 0)) (fun r : Int => .int .i64 r) (fun r => 0 ≤ r ∧ r < n) W) := by
  have hil : (a + 1) % l.length < l.length := Nat.mod_lt _ hl.pos
  have hle := hl.le
  obtain ⟨v, hv⟩ : ∃ v, l[(a + 1) % l.length] = v := ⟨_, rfl⟩
  have hvr := hl.rng v (hv ▸ List.getElem_mem hil)
  refine calls_start_chg hat Tryd.func59 rfl rfl ?_
  refine RunC.seq ?_
  refine RunC.region ?_
  refine RunL.val (Val.pure rfl) rfl rfl rfl ?_
  refine RunL.nil ?_
  refine RunE.next ?_
  refine RunC.seq ?_
  refine RunC.region ?_
  refine RunL.val (Val.load_one rfl (.head _) ty_3 rfl) rfl rfl rfl ?_
  refine RunL.val (Val.addN (b := 1) (a + 1) rfl rfl rfl (i64_inN (by omega))) rfl rfl rfl ?_
  refine RunL.sto (Sto.store_chg rfl rfl .here ty_3 rfl rfl) rfl rfl ?_
  refine RunL.nil ?_
  refine RunE.next ?_
  refine RunC.seq ?_
  refine RunC.draw 12 fol_ .nil ?_
  refine RunA.val (i := 0) rfl (by kernel_rfl) (by kernel_rfl) (Val.oload_one rfl hby (by simp [hne]) ty_41 rfl) rfl rfl rfl (fun _ _ _ h => h) .nil rfl ?_
  refine RunA.val (i := 1) rfl (by kernel_rfl) (by kernel_rfl) (Val.load_one rfl (.head _) ty_3 rfl) rfl rfl rfl (fun _ _ _ h => h) .nil rfl ?_
  refine RunA.val (i := 2) rfl (by kernel_rfl) (by kernel_rfl) (Val.oload_one rfl hby (by simp [hne]) ty_41 rfl) rfl rfl rfl (fun _ _ _ h => h) .nil rfl ?_
  refine RunA.val (i := 3) rfl (by kernel_rfl) (by kernel_rfl) (Val.len_sl rfl sl_41) rfl rfl rfl (fun _ _ _ h => h) .nil rfl ?_
  refine RunA.val (i := 4) rfl (by kernel_rfl) (by kernel_rfl) (Val.remN (a := a + 1) (b := l.length) rfl rfl hl.pos) rfl rfl rfl (fun _ _ _ h => h) .nil rfl ?_
  refine RunA.val (i := 5) rfl (by kernel_rfl) (by kernel_rfl) (Val.indexAddr_slp rfl rfl sl_41 (by omega) (by omega) (hS.ptrM hil)) rfl rfl rfl (fun _ _ _ h => h) .nil rfl ?_
  refine RunA.val (i := 6) rfl (by kernel_rfl) (by kernel_rfl) (Val.load_gen rfl (fun w hm => hS.loadM1 (by decide) hm (by simp [hbb]) ty_92 hil (v := .int .u16 v) (by simp [hv]))) rfl rfl rfl (fun _ _ _ h => h) .nil rfl ?_
  refine RunA.val (i := 7) rfl (by kernel_rfl) (by kernel_rfl) (Val.convInt rfl und_92 und_3 (IntWalk.i64_in _ ⟨by omega, by omega⟩)) rfl rfl rfl (fun _ _ _ h => h) .nil rfl ?_
  refine RunA.val (i := 8) rfl (by kernel_rfl) (by kernel_rfl) (Val.load_one rfl (.head _) ty_3 rfl) rfl rfl rfl (fun _ _ _ h => h) .nil rfl ?_
  refine RunA.val (i := 9) rfl (by kernel_rfl) (by kernel_rfl) (Val.mul rfl rfl (IntWalk.i64_in _ ⟨by omega, by omega⟩)) rfl rfl rfl (fun _ _ _ h => h) .nil rfl ?_
  refine RunA.val (i := 10) rfl (by kernel_rfl) (by kernel_rfl) (Val.add rfl rfl (IntWalk.i64_in _ ⟨by omega, by omega⟩)) rfl rfl rfl (fun _ _ _ h => h) .nil rfl ?_
  refine RunA.val (i := 11) rfl (by kernel_rfl) (by kernel_rfl) (Val.pure rfl) rfl rfl rfl (fun _ _ _ h => h) .nil rfl ?_
  refine RunA.toB (by kernel_rfl) ?_
  refine RunB.one (i := 12) (by kernel_rfl) ?_
  refine RunI.val rfl (Val.rem rfl rfl (by omega) (by omega)) rfl rfl rfl (RunK.toB ?_)
  refine RunB.one (i := 13) (by kernel_rfl) ?_
  refine RunI.val rfl (Val.pure rfl) rfl rfl rfl (RunK.toB ?_)
  refine RunB.done (by kernel_rfl) ?_
  refine RunE.next ?_
  refine RunC.ret ?_
  exact RunE.retX ((v + 13 * ((a + 1 : Nat) : Int)) % n) ⟨Int.emod_nonneg _ (by omega), Int.emod_lt_of_pos _ (by omega)⟩ (.r1 rfl (.tmp rfl)) rfl
theorem hdraws_calls (l : List Int) (q : Option Addr) (cap : Nat) (W : World) : Calls Tryd.prog 30 #[.slice q l.length cap] W (News (fun β : Nat × Nat => .func (.func 59) #[] #[.pointer (some ⟨β.1, 0, none⟩), .pointer (some ⟨β.2, 0, none⟩)])
    (fun β => [(β.1, .cells [.int .i64 ((0 : Nat) : Int)].toArray 3 (0, 0)), (β.2, .cells [.slice q l.length cap].toArray 41 (0, 0))]) W) := by
  refine calls_start Tryd.func30 rfl rfl ?_
  refine RunC.seq ?_
  refine RunC.region ?_
  refine RunL.new (New.box rfl) rfl rfl rfl (fun b1 => ?_)
  refine RunL.val (Val.pure rfl) rfl rfl rfl ?_
  refine RunL.nil ?_
  refine RunE.next ?_
  refine RunC.seq ?_
  refine RunC.region ?_
  refine RunL.new (New.alloc zero_3) rfl rfl rfl (fun b3 => ?_)
  refine RunL.sto (Sto.store rfl rfl .here ty_3 rfl rfl) rfl rfl ?_
  refine RunL.nil ?_
  refine RunE.next ?_
  refine RunC.seq ?_
  refine RunC.region ?_
  refine RunL.val (Val.pure rfl) rfl rfl rfl ?_
  refine RunL.val (Val.pure rfl) rfl rfl rfl ?_
  refine RunL.nil ?_
  refine RunE.next ?_
  refine RunC.ret ?_
  exact RunE.ret (chg := []) (.r1 rfl (.tmp rfl)) (fun _ hm => ⟨(b3, b1), rfl, hm.pick (.cons .here rfl (.cons .here rfl .nil))⟩)
end Go.Proofs.YtlhdalcipflblaaDoor
/- The facts on the tables of types and on the entries of functions that the walks use. Written by program. -/
set_option linter.unusedSimpArgs false
set_option linter.unusedVariables false
namespace Go.Proofs.YtlhdalcipflblaaDoor
open Go Go.Eng
theorem ent_59 : Enters Tryd.prog 59 := enters_of Tryd.func59 (by kernel_rfl) rfl
end Go.Proofs.YtlhdalcipflblaaDoor
/- Walks of the laws of layer 10: tear. -/
set_option linter.unusedSimpArgs false
set_option linter.unusedVariables false
namespace Go.Proofs.YtlhdalcipflblaaDoor
open Go Go.Eng Go.Hp Go.Pw1

set_option maxHeartbeats 1000000 in
theorem tear_calls (s : Str) (hp : plainP s) (hg : s.all goodX = true) (hs12 : s.length ≤ 12) (l : List Int) (hl : By l) (a : Nat) (ha : a ≤ 100000) (q : Option Addr) (b o cap bat bby : Nat) (W : World) (hat : W.heap[bat]? = some (.cells [.int .i64 (a : Int)].toArray 3 (0, 0)))
    (hby : W.heap[bby]? = some (.cells [.slice q l.length cap].toArray 41 (0, 0))) (hne : bby ≠ bat) (hbb : b ≠ bat) (hS : Sl W q b o 1 (u16s l)) :
    Calls Tryd.prog 32 #[.string (bs s), .func (.func 59) #[] #[.pointer (some ⟨bat, 0, none⟩), .pointer (some ⟨bby, 0, none⟩)]] W
      (TurnsZ bat (fun z : Nat × Str => .cells [.int .i64 (z.1 : Int)].toArray 3 (0, 0)) (fun z => .string (bs z.2)) (fun z => z.1 ≤ a + 20 ∧ pieceX z.2 = true ∧ suitsX z.2 s = true) W) := by
  have hlle := hl.le
  refine calls_start_chg hat Tryd.func32 rfl rfl ?_
  refine RunC.seq ?_
  refine RunC.region ?_
  refine RunL.val (Val.pure rfl) rfl rfl rfl ?_
  refine RunL.nil ?_
  refine RunE.next ?_
  refine RunC.seq ?_
  refine RunC.region ?_
  refine RunL.val (Val.pure rfl) rfl rfl rfl ?_
  refine RunL.newX (NewX.bytes rfl und_9 sls_47 und_5) rfl rfl rfl (fun p10 _ b10 => ?_)
  refine RunL.val (Val.pure rfl) rfl rfl rfl ?_
  refine RunL.nil ?_
  refine RunE.next ?_
  refine RunC.seq ?_
  refine RunC.seq ?_
  refine RunC.region ?_
  refine RunL.val (Val.pure rfl) rfl rfl rfl ?_
  refine RunL.val (Val.len_sl rfl sl_47) rfl rfl rfl ?_
  refine RunL.val (Val.pure rfl) rfl rfl rfl ?_
  refine RunL.nil ?_
  refine RunE.next ?_
  refine RunC.block ?_
  refine RunC.loopX (X := Str) (n0 := []) (s.length) (fun k x q => (13, .int .i64 (k : Int)) :: q) (fun k x => [(bat, .cells [.int .i64 ((a + k : Nat) : Int)].toArray 3 (0, 0))]) (fun k x => [(b10, bytesO 5 (x.map byteV) p10)]) (fun k x => []) (fun k x => Rf x s) s (Rf.refl s) rfl (Sub.consE (t := 13) rfl rfl (Sub.cons (t := 0) rfl (Sub.cons (t := 1) rfl (Sub.cons (t := 5) rfl (Sub.cons (t := 12) rfl (Sub.nil _)))))) (.cons .here rfl (Pick.same rfl)) ?_
  intro k x kN kI
  have hxl := kI.len
  refine RunC.seq ?_
  refine RunC.region ?_
  refine RunL.val (Val.pure rfl) rfl rfl rfl ?_
  refine RunL.nil ?_
  refine RunE.next ?_
  refine RunC.seq ?_
  refine RunC.cond rfl ?_ ?_
  · intro c0
    have c0' := c0; clear c0
    try simp only [decide_eq_true_eq, decide_eq_false_iff_not, Bool.not_eq_true', Bool.not_eq_false', Bool.and_eq_true, Bool.or_eq_true, Bool.and_eq_false_iff, Bool.or_eq_false_iff, Int.not_le, Int.not_lt] at c0'
    refine RunC.skip ?_
    refine RunE.next ?_
    refine RunC.seq ?_
    refine RunC.block ?_
    refine RunC.seq ?_
    refine RunC.region ?_
    refine RunL.val (Val.pure rfl) rfl rfl rfl ?_
    refine RunL.val (Val.pure rfl) rfl rfl rfl ?_
    refine RunL.nil ?_
    refine RunE.next ?_
    refine RunC.seq ?_
    refine RunC.region ?_
    refine RunL.val (Val.pure rfl) rfl rfl rfl ?_
    refine RunL.callX_chg (isCall_value rfl rfl ent_59) rfl rfl rfl .here (fun w hm => hdraw_calls l hl 4 (by omega) (a + k) (by omega) q b o cap _ _ w (hm.at (.head _)) (hm.old_at hby (by simp [hne])) hne hbb (hS.mono (by decide) hm (by simp [hbb]))) (fun x17 hx17 => ?_)
    refine RunL.val (Val.pure rfl) rfl rfl rfl ?_
    refine RunL.nil ?_
    refine RunE.next ?_
    refine RunC.cond rfl ?_ ?_
    · intro c1
      have c1' := c1; clear c1
      try simp only [decide_eq_true_eq, decide_eq_false_iff_not, Bool.not_eq_true', Bool.not_eq_false', Bool.and_eq_true, Bool.or_eq_true, Bool.and_eq_false_iff, Bool.or_eq_false_iff, Int.not_le, Int.not_lt] at c1'
      refine RunC.region ?_
      refine RunL.val (Val.pure rfl) rfl rfl rfl ?_
      refine RunL.val (Val.pure rfl) rfl rfl rfl ?_
      refine RunL.val (Val.indexAddr_sl rfl rfl sl_47 (by omega) (by omega)) rfl rfl rfl ?_
      refine RunL.sto (Sto.storeB (cs := x.map byteV ++ List.replicate p10 (Value.int IntKind.u8 0)) rfl rfl .here ty_5 rfl (by simp; omega) (by simp; omega)) rfl rfl ?_
      refine RunL.nil ?_
      refine RunE.block_normal ?_
      refine RunE.next ?_
      refine RunC.region ?_
      refine RunL.val (Val.add rfl rfl (IntWalk.i64_in _ ⟨by omega, by omega⟩)) rfl rfl rfl ?_
      refine RunL.val (Val.pure rfl) rfl rfl rfl ?_
      refine RunL.nil ?_
      exact RunE.roundX (x.set k 63) (by omega) (kI.set hp k) (by first | rfl | (rw [Nat.add_assoc])) (Sub.consE (t := 13) rfl rfl (Sub.cons (t := 0) rfl (Sub.cons (t := 1) rfl (Sub.cons (t := 5) rfl (Sub.cons (t := 12) rfl (Sub.nil _)))))) (.cons .here (by first | rfl | exact bytes_set (c := 63) (v := 63) (by omega) (by rfl)) .nil)
    · intro c1
      have c1' := c1; clear c1
      try simp only [decide_eq_true_eq, decide_eq_false_iff_not, Bool.not_eq_true', Bool.not_eq_false', Bool.and_eq_true, Bool.or_eq_true, Bool.and_eq_false_iff, Bool.or_eq_false_iff, Int.not_le, Int.not_lt] at c1'
      refine RunC.skip ?_
      refine RunE.block_normal ?_
      refine RunE.next ?_
      refine RunC.region ?_
      refine RunL.val (Val.add rfl rfl (IntWalk.i64_in _ ⟨by omega, by omega⟩)) rfl rfl rfl ?_
      refine RunL.val (Val.pure rfl) rfl rfl rfl ?_
      refine RunL.nil ?_
      exact RunE.roundX x (by omega) kI (by first | rfl | (rw [Nat.add_assoc])) (Sub.consE (t := 13) rfl rfl (Sub.cons (t := 0) rfl (Sub.cons (t := 1) rfl (Sub.cons (t := 5) rfl (Sub.cons (t := 12) rfl (Sub.nil _)))))) (.cons .here (by first | rfl | exact bytes_set (c := 63) (v := 63) (by omega) (by rfl)) .nil)
  · intro c0
    have c0' := c0; clear c0
    try simp only [decide_eq_true_eq, decide_eq_false_iff_not, Bool.not_eq_true', Bool.not_eq_false', Bool.and_eq_true, Bool.or_eq_true, Bool.and_eq_false_iff, Bool.or_eq_false_iff, Int.not_le, Int.not_lt] at c0'
    obtain rfl : k = s.length := by omega
    refine RunC.exit ?_
    refine RunE.pass_exit ?_
    refine RunE.pass_exit ?_
    refine RunE.block_here ?_
    refine RunE.next ?_
    refine RunC.seq ?_
    refine RunC.seq ?_
    refine RunC.region ?_
    refine RunL.val (Val.pure rfl) rfl rfl rfl ?_
    refine RunL.callX_chg (isCall_value rfl rfl ent_59) rfl rfl rfl .here (fun w hm => hdraw_calls l hl 2 (by omega) (a + s.length) (by omega) q b o cap _ _ w (hm.at (.head _)) (hm.old_at hby (by simp [hne])) hne hbb (hS.mono (by decide) hm (by simp [hbb]))) (fun x24 hx24 => ?_)
    refine RunL.val (Val.pure rfl) rfl rfl rfl ?_
    refine RunL.nil ?_
    refine RunE.next ?_
    refine RunC.cond rfl ?_ ?_
    · intro c2
      have c2' := c2; clear c2
      try simp only [decide_eq_true_eq, decide_eq_false_iff_not, Bool.not_eq_true', Bool.not_eq_false', Bool.and_eq_true, Bool.or_eq_true, Bool.and_eq_false_iff, Bool.or_eq_false_iff, Int.not_le, Int.not_lt] at c2'
      refine RunC.seq ?_
      refine RunC.region ?_
      refine RunL.val (Val.pure rfl) rfl rfl rfl ?_
      refine RunL.val (Val.bytesStrN x (by omega) rfl sls_47 und_5 und_9 (fun w hm => bytes_sl (hm.at (.tail _ (.head _))))) rfl rfl rfl ?_
      refine RunL.val (Val.pure rfl) rfl rfl rfl ?_
      refine RunL.nil ?_
      refine RunE.next ?_
      refine RunC.ret ?_
      refine RunE.pass_ret ?_
      obtain ⟨w1, w2⟩ := whole_ok kI hp hg hs12
      exact RunE.retZ (a + s.length + 1, x) ⟨by simp only; omega, w1, w2⟩ rfl (.r1 rfl (.tmp rfl)) rfl
    · intro c2
      have c2' := c2; clear c2
      try simp only [decide_eq_true_eq, decide_eq_false_iff_not, Bool.not_eq_true', Bool.not_eq_false', Bool.and_eq_true, Bool.or_eq_true, Bool.and_eq_false_iff, Bool.or_eq_false_iff, Int.not_le, Int.not_lt] at c2'
      refine RunC.skip ?_
      refine RunE.next ?_
      refine RunC.seq ?_
      refine RunC.region ?_
      refine RunL.val (Val.pure rfl) rfl rfl rfl ?_
      refine RunL.val (Val.pure rfl) rfl rfl rfl ?_
      refine RunL.val (Val.len_sl rfl sl_47) rfl rfl rfl ?_
      refine RunL.val (Val.add rfl rfl (IntWalk.i64_in _ ⟨by omega, by omega⟩)) rfl rfl rfl ?_
      refine RunL.callX_chg (isCall_value rfl rfl ent_59) rfl rfl rfl .here (fun w hm => hdraw_calls l hl ((s.length : Int) + 1) (by omega) (a + s.length + 1) (by omega) q b o cap _ _ w (hm.at (.head _)) (hm.old_at hby (by simp [hne])) hne hbb (hS.mono (by decide) hm (by simp [hbb]))) (fun x32 hx32 => ?_)
      obtain ⟨f, rfl⟩ : ∃ f : Nat, x32 = (f : Int) := ⟨x32.toNat, by omega⟩
      refine RunL.val (Val.pure rfl) rfl rfl rfl ?_
      refine RunL.nil ?_
      refine RunE.next ?_
      refine RunC.seq ?_
      refine RunC.region ?_
      iterate 3 refine RunL.val (Val.pure rfl) rfl rfl rfl ?_
      refine RunL.val (Val.len_sl rfl sl_47) rfl rfl rfl ?_
      refine RunL.val (Val.pure rfl) rfl rfl rfl ?_
      refine RunL.val (Val.sub' rfl rfl (IntWalk.i64_in _ ⟨by omega, by omega⟩)) rfl rfl rfl ?_
      refine RunL.val (Val.add rfl rfl (IntWalk.i64_in _ ⟨by omega, by omega⟩)) rfl rfl rfl ?_
      refine RunL.callX_chg (isCall_value rfl rfl ent_59) rfl rfl rfl .here (fun w hm => hdraw_calls l hl ((s.length : Int) - (f : Int) + 1) (by omega) (a + s.length + 1 + 1) (by omega) q b o cap _ _ w (hm.at (.head _)) (hm.old_at hby (by simp [hne])) hne hbb (hS.mono (by decide) hm (by simp [hbb]))) (fun x40 hx40 => ?_)
      obtain ⟨g, rfl⟩ : ∃ g : Nat, x40 = (g : Int) := ⟨x40.toNat, by omega⟩
      obtain ⟨t, ht⟩ : ∃ t, f + g = t := ⟨_, rfl⟩
      refine RunL.val (Val.addN (a := f) (b := g) t rfl rfl ht (i64_inN (by omega))) rfl rfl rfl ?_
      refine RunL.val (Val.pure rfl) rfl rfl rfl ?_
      refine RunL.nil ?_
      refine RunE.next ?_
      refine RunC.seq ?_
      refine RunC.seq ?_
      refine RunC.region ?_
      refine RunL.val (Val.pure rfl) rfl rfl rfl ?_
      refine RunL.val (Val.len_sl rfl sl_47) rfl rfl rfl ?_
      refine RunL.val (Val.pure rfl) rfl rfl rfl ?_
      refine RunL.val (Val.pure rfl) rfl rfl rfl ?_
      refine RunL.val (Val.sub' rfl rfl (IntWalk.i64_in _ ⟨by omega, by omega⟩)) rfl rfl rfl ?_
      refine RunL.val (Val.sub' rfl rfl (IntWalk.i64_in _ ⟨by omega, by omega⟩)) rfl rfl rfl ?_
      refine RunL.val (Val.add rfl rfl (IntWalk.i64_in _ ⟨by omega, by omega⟩)) rfl rfl rfl ?_
      refine RunL.val (Val.pure rfl) rfl rfl rfl ?_
      refine RunL.nil ?_
      refine RunE.next ?_
      refine RunC.cond rfl ?_ ?_
      · intro c3
        have c3' := c3; clear c3
        try simp only [decide_eq_true_eq, decide_eq_false_iff_not, Bool.not_eq_true', Bool.not_eq_false', Bool.and_eq_true, Bool.or_eq_true, Bool.and_eq_false_iff, Bool.or_eq_false_iff, Int.not_le, Int.not_lt] at c3'
        refine RunC.seq ?_
        refine RunC.region ?_
        refine RunL.val (Val.pure rfl) rfl rfl rfl ?_
        refine RunL.val (Val.bytesStrN x (by omega) rfl sls_47 und_5 und_9 (fun w hm => bytes_sl (hm.at (.tail _ (.head _))))) rfl rfl rfl ?_
        refine RunL.val (Val.pure rfl) rfl rfl rfl ?_
        refine RunL.nil ?_
        refine RunE.next ?_
        refine RunC.ret ?_
        refine RunE.pass_ret ?_
        obtain ⟨w1, w2⟩ := whole_ok kI hp hg hs12
        exact RunE.retZ (a + s.length + 1 + 1 + 1, x) ⟨by simp only; omega, w1, w2⟩ rfl (.r1 rfl (.tmp rfl)) rfl
      · intro c3
        have c3' := c3; clear c3
        try simp only [decide_eq_true_eq, decide_eq_false_iff_not, Bool.not_eq_true', Bool.not_eq_false', Bool.and_eq_true, Bool.or_eq_true, Bool.and_eq_false_iff, Bool.or_eq_false_iff, Int.not_le, Int.not_lt] at c3'
        refine RunC.skip ?_
        refine RunE.next ?_
        refine RunC.seq ?_
        refine RunC.drawK 9 fol_ (.cons .here rfl .nil) ?_
        refine RunA.valC (i := 0) rfl (by kernel_rfl) (by kernel_rfl) (fun c hck => (Val.pure rfl)) rfl rfl rfl (fun _ _ _ h => h) (.cons .here rfl .nil) rfl ?_
        refine RunA.valC (i := 1) rfl (by kernel_rfl) (by kernel_rfl) (fun c hck => (Val.pure rfl)) rfl rfl rfl (fun _ _ _ h => h) (.cons .here rfl .nil) rfl ?_
        refine RunA.valC (i := 2) rfl (by kernel_rfl) (by kernel_rfl) (fun c hck => (Val.sliceTo (i := f) rfl rfl sl_47 (by omega))) rfl rfl rfl (fun _ _ _ h => h) (.cons .here rfl .nil) rfl ?_
        refine RunA.valC (i := 3) rfl (by kernel_rfl) (by kernel_rfl) (fun c hck => (Val.bytesStrN (x.take f) (by rw [List.length_take]; omega) rfl sls_47 und_5 und_9 (fun w hm => bytes_take (hm.at (List.mem_append_right _ (.head _))) f))) rfl rfl rfl (fun _ _ _ h => h) (.cons .here rfl .nil) rfl ?_
        refine RunA.valC (i := 4) rfl (by kernel_rfl) (by kernel_rfl) (fun c hck => (Val.strAdd rfl rfl (by simp; omega))) rfl rfl rfl (fun _ _ _ h => h) (.cons .here rfl .nil) rfl ?_
        refine RunA.valC (i := 5) rfl (by kernel_rfl) (by kernel_rfl) (fun c hck => (Val.pure rfl)) rfl rfl rfl (fun _ _ _ h => h) (.cons .here rfl .nil) rfl ?_
        refine RunA.valC (i := 6) rfl (by kernel_rfl) (by kernel_rfl) (fun c hck => (Val.pure rfl)) rfl rfl rfl (fun _ _ _ h => h) (.cons .here rfl .nil) rfl ?_
        refine RunA.valC (i := 7) rfl (by kernel_rfl) (by kernel_rfl) (fun c hck => (Val.sliceFromZ (i := t) rfl rfl sl_47 (by omega) (by omega))) rfl rfl rfl (fun _ _ _ h => h) (.cons .here rfl .nil) rfl ?_
        refine RunA.valC (i := 8) rfl (by kernel_rfl) (by kernel_rfl) (fun c hck => (Val.bytesStrN (x.drop t) (by rw [List.length_drop]; omega) rfl sls_47 und_5 und_9 (fun w hm => bytes_from (hm.at (List.mem_append_right _ (.head _))) _ t (by omega)))) rfl rfl rfl (fun _ _ _ h => h) (.cons .here rfl .nil) rfl ?_
        refine RunA.toB (by kernel_rfl) ?_
        refine RunB.one (i := 9) (by kernel_rfl) ?_
        refine RunI.val rfl (Val.strAdd rfl rfl (by simp; omega)) rfl rfl rfl (RunK.toB ?_)
        refine RunB.one (i := 10) (by kernel_rfl) ?_
        refine RunI.val rfl (Val.pure rfl) rfl rfl rfl (RunK.toB ?_)
        refine RunB.done (by kernel_rfl) ?_
        refine RunE.next ?_
        refine RunC.ret ?_
        exact RunE.retZ (a + s.length + 1 + 1 + 1, x.take f ++ [42] ++ x.drop t) ⟨by simp only; omega, torn_piece kI hp hg (by omega) (by omega), torn_suits kI hp hg (by omega) (by omega)⟩ rfl (.r1 rfl (.tmp rfl)) rfl
end Go.Proofs.YtlhdalcipflblaaDoor
/- Layer 10, plain: the truth is one of the ways. -/
set_option linter.unusedSimpArgs false
set_option linter.unusedVariables false
namespace Go.Hp
open Go Go.Eng Go.Pw1 Go.Proofs.YtlhdalcipflblaaDoor
theorem lastP_or {p : Nat → Bool} : ∀ n, lastP p n = -1 ∨ ∃ k, k < n ∧ lastP p n = (k : Int) ∧ p k = true
  | 0 => .inl rfl
  | n + 1 => by
    unfold lastP
    cases h : p n with
    | true => exact .inr ⟨n, by omega, rfl, h⟩
    | false =>
      simp only [Bool.false_eq_true, if_false]
      rcases lastP_or (p := p) n with h1 | ⟨k, h1, h2, h3⟩
      · exact .inl h1
      · exact .inr ⟨k, by omega, h2, h3⟩
structure TrueIs (m : MxA) (l : List Nat) (u : Nat) : Prop where
  cnt : 0 < cntX m.pl
  why : WhyX m.pl = (0, 0)
  lost : lostX m.pl &&& u = 0
  can : andN (andN (2 ^ (esX m).length - 1) u) (canX m.pl) = 0
  at_ : ∀ i (hi : i < l.length), ((fsX m.pl).getD i 0).testBit l[i] = true ∧ l[i] < (esX m).length ∧ 0 < shareL (esX m).length (fsX m.pl) i l[i] ∧ (sureC m.pl i = -1 ∨ sureC m.pl i = (l[i] : Int))
theorem true_law {m : MxA} (hX : mixedX m.pl = true) {l : List Nat} {u : Nat} (hw : Way (esX m).length (fsX m.pl) 0 l) (hu : ∀ x, u.testBit x = decide (x ∈ l)) : TrueIs m l u := by
  obtain ⟨h4, h8, h12⟩ := mixed_ok hX
  have hfl := fs_len m
  have hcnt : 0 < cntX m.pl := way_pos hw
  have hcn : cntL (esX m).length (fsX m.pl) 0 = cntX m.pl := rfl
  have hml : l ∈ waysL (esX m).length (fsX m.pl) 0 := ways_mem.2 hw
  refine ⟨hcnt, ?_, ?_, ?_, fun i hi => ?_⟩
  · obtain ⟨s, e, hI, hW⟩ := why_is hX
    have he := (why_cnt hX hI).2 hcnt
    rcases hI.se with ⟨h1, h2⟩ | ⟨_, h2, _⟩
    · rw [hW, h1, h2]; rfl
    · omega
  · refine Nat.eq_of_testBit_eq fun k => ?_
    rw [Nat.testBit_and, Nat.zero_testBit, hu]
    unfold lostX
    rw [setOf_bit, ne_eq]
    by_cases hk : k < (esX m).length
    · by_cases hm : k ∈ l
      · have h1 : 0 < usedL (esX m).length (fsX m.pl) k := by
          rw [used_count hk, List.countP_pos_iff]
          exact ⟨l, hml, decide_eq_true hm⟩
        have h2 : ¬ usedL (esX m).length (fsX m.pl) k = 0 := by omega
        simp [h2]
      · simp [hm]
    · simp [hk]
  · refine Nat.eq_of_testBit_eq fun k => ?_
    rw [andN_bit, andN_bit, Nat.zero_testBit, Nat.testBit_two_pow_sub_one, hu]
    unfold canX
    rw [setOf_bit, ne_eq]
    by_cases hk : k < (esX m).length
    · by_cases hm : k ∈ l
      · simp [hm]
      · have h1 : usedL (esX m).length (fsX m.pl) k < cntX m.pl := by
          rw [used_count hk, ← hcn, cnt_ways]
          have h2 := List.length_eq_countP_add_countP (l := waysL (esX m).length (fsX m.pl) 0) (p := fun l => decide (k ∈ l))
          have h3 : 0 < (waysL (esX m).length (fsX m.pl) 0).countP (fun l => !decide (k ∈ l)) := by
            rw [List.countP_pos_iff]
            exact ⟨l, hml, by simp [hm]⟩
          have h4 : (waysL (esX m).length (fsX m.pl) 0).countP (fun l => !decide (k ∈ l)) = (waysL (esX m).length (fsX m.pl) 0).countP (fun a => decide ¬ (decide (k ∈ a)) = true) := by
            refine List.countP_congr fun a _ => ?_
            simp
          omega
        simp [hk, hm, h1]
    · simp [hk]
  · have hil : i < (fsX m.pl).length := by rw [← hw.len]; exact hi
    have h1 := hw.fit i hi
    have h2 : l.getD i (esX m).length = l[i] := by simp [List.getD_eq_getElem?_getD, hi]
    refine ⟨h1.2, h1.1, (share_pos hil).2 ⟨l, hw, h2⟩, ?_⟩
    unfold sureC
    rcases lastP_or (p := sureP m.pl i) (neX m.pl) with h3 | ⟨k, h3, h4, h5⟩
    · exact .inl h3
    · refine .inr ?_
      rw [h4]
      have h6 := (share_all hil).1 (show shareL (esX m).length (fsX m.pl) i k = cntL (esX m).length (fsX m.pl) 0 from of_decide_eq_true h5) l hw
      rw [h2] at h6
      rw [h6]
end Go.Hp
/- Layer 10, plain: the boxes and cards that HeapTrue makes. -/
set_option linter.unusedSimpArgs false
set_option linter.unusedVariables false
namespace Go.Hp
open Go Go.Eng Go.Pw1 Go.Proofs.YtlhdalcipflblaaDoor
/-- A box that is made, and where its titles lie. -/
structure TB where
  colour : Int
  titles : List Str
  blk : Nat
  cap : Nat
  r : List Value
def TB.bx (B : TB) : BxA := ⟨⟨B.colour, B.titles⟩, some ⟨B.blk, 0, none⟩, B.blk, 0, B.cap⟩
/-- The boxes, the last one first. -/
def tBx (L : List TB) : List BxA := L.reverse.map TB.bx
def tR (L : List TB) : Blks := L.map fun B => (B.blk, .cells ((strsV B.titles).flatten ++ B.r).toArray 9 (0, 0))
def tEs (L : List TB) : List En := entriesX ((tBx L).map (·.bx))
def tnE (e : En) : Tn := ⟨e.colour, e.number, e.title⟩
theorem tnE_cells (e : En) : (tnE e).cells = e.cells := rfl
theorem tnE_flat (l : List En) : (l.map tnE).map Tn.cells = l.map En.cells := by rw [List.map_map]; rfl
structure GoodT (t : Str) : Prop where
  let_ : t.all letterX = true
  pos : 1 ≤ t.length
  le : t.length ≤ 3
structure GoodB (B : TB) : Prop where
  col : 1 ≤ B.colour ∧ B.colour ≤ 3
  tit : ∀ t ∈ B.titles, GoodT t
  n : 1 ≤ B.titles.length ∧ B.titles.length ≤ 4
theorem tBx_cons (B : TB) (L : List TB) : tBx (B :: L) = tBx L ++ [B.bx] := by simp [tBx]
theorem tEs_cons (B : TB) (L : List TB) : tEs (B :: L) = tEs L ++ boxEn B.colour 0 B.titles := by
  unfold tEs
  rw [tBx_cons, List.map_append]
  exact entries_snoc _ _
theorem tEs_len (L : List TB) : (tEs L).length = manyX ((tBx L).map (·.bx)) := entries_len _
theorem tEs_le : ∀ {L : List TB}, (∀ B ∈ L, GoodB B) → L.length ≤ (tEs L).length ∧ (tEs L).length ≤ L.length * 4
  | [], _ => ⟨Nat.le_refl _, Nat.le_refl _⟩
  | B :: L, h => by
    have ih := tEs_le (L := L) fun C hC => h C (List.mem_cons_of_mem _ hC)
    have hB := (h B (by simp)).n
    rw [tEs_cons, List.length_append, boxEn_len, List.length_cons]
    omega
def tit (a b c i : Nat) : Str := [UInt8.ofNat (97 + a), UInt8.ofNat (97 + b), UInt8.ofNat (97 + c)].take i
theorem let_byte {n : Nat} (h : n < 3) : letterX (UInt8.ofNat (97 + n)) = true := by
  have : ∀ n, n < 3 → letterX (UInt8.ofNat (97 + n)) = true := by decide
  exact this n h
theorem tit_good {a b c i : Nat} (ha : a < 3) (hb : b < 3) (hc : c < 3) (h1 : 1 ≤ i) (h3 : i ≤ 3) : GoodT (tit a b c i) := by
  refine ⟨?_, by simp [tit]; omega, by simp [tit]; omega⟩
  rw [List.all_eq_true]
  intro x hx
  have hx2 := List.mem_of_mem_take hx
  rcases List.mem_cons.1 hx2 with rfl | hx2
  · exact let_byte ha
  rcases List.mem_cons.1 hx2 with rfl | hx2
  · exact let_byte hb
  rw [List.mem_singleton.1 hx2]
  exact let_byte hc
theorem tit_len {a b c i : Nat} (h : i ≤ 3) : (tit a b c i).length = i := by simp [tit]; omega
theorem tit_sl {w : World} {bk a b c i : Nat} (ha : a < 3) (hb : b < 3) (hc : c < 3)
    (h : w.heap[bk]? = some (.cells [.int .u8 ((97 + a : Nat) : Int), .int .u8 ((97 + b : Nat) : Int), .int .u8 ((97 + c : Nat) : Int)].toArray 5 (0, 0))) : Sl w (some ⟨bk, 0, none⟩) bk 0 1 (bytesV (tit a b c i)) := by
  have h1 : Sl w (some ⟨bk, 0, none⟩) bk 0 1 (bytesV [UInt8.ofNat (97 + a), UInt8.ofNat (97 + b), UInt8.ofNat (97 + c)]) := by
    refine Sl.rows (xs := bytesV [UInt8.ofNat (97 + a), UInt8.ofNat (97 + b), UInt8.ofNat (97 + c)]) (T := 5) (fr := (0, 0)) ?_ (fun x hx => by obtain ⟨y, _, rfl⟩ := List.mem_map.1 hx; rfl)
    rw [h, byte_v (k := 97 + a) (by omega), byte_v (k := 97 + b) (by omega), byte_v (k := 97 + c) (by omega)]
    rfl
  refine ⟨fun _ => rfl, fun x hx => by obtain ⟨y, _, rfl⟩ := List.mem_map.1 hx; rfl, fun k hk j hj => ?_⟩
  have hk2 : k < i ∧ k < 3 := by (have h9 := hk; simp [bytesV, tit] at h9; omega)
  rw [h1.cell k (by simp [bytesV]; omega) j hj]
  simp [bytesV, tit]
/-- What a torn card must be. -/
structure TornOf (c : Tn) (e : En) : Prop where
  ok : badCard c = false
  fit : fitX c e = true
theorem torn_of {e : En} (he : EnOk e) {col : Int} {p q : Str} (hcol : col = 0 ∨ col = e.colour) (hp : pieceX p = true) (hq : pieceX q = true) (sp : suitsX p e.number = true) (sq : suitsX q e.title = true) : TornOf ⟨col, p, q⟩ e := by
  refine ⟨(bad_iff _).2 ⟨?_, hp, hq⟩, ?_⟩
  · have := he.col
    unfold within
    simp
    omega
  · unfold fitX
    simp only
    rw [sp, sq]
    rcases hcol with h | h
    · simp [h]
    · simp [h]
/-- Looking for an entry that is not used comes to an end. -/
theorem free_lt {ne p0 j : Nat} {tl : List Nat} {u : Nat} (hne : 0 < ne) (hp : p0 < ne) (hu : ∀ x, u.testBit x = decide (x ∈ tl)) (hl : tl.length < ne) (h : ∀ t, t < j → u.testBit ((p0 + t) % ne) = true) : j < ne := by
  rcases Nat.lt_or_ge j ne with h1 | h1
  · exact h1
  · exfalso
    have h2 : List.range ne ⊆ tl := fun x hx => by
      have hx := List.mem_range.1 hx
      have h3 := h ((x + ne - p0) % ne) (Nat.lt_of_lt_of_le (Nat.mod_lt _ hne) h1)
      rw [hu, decide_eq_true_eq] at h3
      have h4 : (p0 + (x + ne - p0) % ne) % ne = x := by
        rw [Nat.add_mod, Nat.mod_mod, ← Nat.add_mod, show p0 + (x + ne - p0) = x + ne by omega, Nat.add_mod_right, Nat.mod_eq_of_lt hx]
      rw [h4] at h3
      exact h3
    have h3 := (List.nodup_range (n := ne)).length_le_of_subset h2
    rw [List.length_range] at h3
    omega
/-- The entries that are chosen, and what is left of their cards. -/
structure Chosen (ES : List En) (k : Nat) (tl : List Nat) (cl : List Tn) (u : Nat) : Prop where
  tlen : tl.length = k
  clen : cl.length = k
  nd : tl.Nodup
  lt : ∀ t ∈ tl, t < ES.length
  bit : ∀ x, u.testBit x = decide (x ∈ tl)
  ult : u < 2 ^ 12
  fit : ∀ (i : Nat) (c : Tn) (t : Nat) (e : En), cl[i]? = some c → tl[i]? = some t → ES[t]? = some e → TornOf c e
theorem Chosen.nil (ES : List En) : Chosen ES 0 [] [] 0 := ⟨rfl, rfl, List.nodup_nil, fun t h => (by cases h), fun x => (by simp), by decide, fun i c t e h => (by simp at h)⟩
theorem Chosen.snoc {ES : List En} {k p : Nat} {tl : List Nat} {cl : List Tn} {u : Nat} {e : En} {c : Tn} (h : Chosen ES k tl cl u) (hp : p < ES.length) (h12 : ES.length ≤ 12) (he : ES[p] = e) (hu : u.testBit p = false) (hc : TornOf c e) : Chosen ES (k + 1) (tl ++ [p]) (cl ++ [c]) (u ||| 2 ^ p) := by
  refine ⟨by simp [h.tlen], by simp [h.clen], ?_, fun t ht => ?_, fun x => ?_, Nat.or_lt_two_pow h.ult (Nat.pow_lt_pow_right (by decide) (by omega)), fun i c2 t e2 h1 h2 h3 => ?_⟩
  · rw [List.nodup_append]
    refine ⟨h.nd, by simp, fun a ha b hb e => ?_⟩
    rw [List.mem_singleton] at hb
    subst hb
    subst e
    rw [h.bit, decide_eq_false_iff_not] at hu
    exact hu ha
  · rcases List.mem_append.1 ht with ht | ht
    · exact h.lt t ht
    · rw [List.mem_singleton.1 ht]; exact hp
  · rw [bit_add, h.bit]
    by_cases e : p = x
    · subst e; simp
    · have e2 : ¬ x = p := fun h => e h.symm
      simp [e, e2]
  · by_cases hi : i < k
    · rw [List.getElem?_append_left (by rw [h.clen]; exact hi)] at h1
      rw [List.getElem?_append_left (by rw [h.tlen]; exact hi)] at h2
      exact h.fit i c2 t e2 h1 h2 h3
    · have hik : i = k := by
        have := (List.getElem?_eq_some_iff.1 h1).1
        simp [h.clen] at this
        omega
      subst hik
      rw [List.getElem?_append_right (by rw [h.clen]; exact Nat.le_refl _), h.clen, Nat.sub_self] at h1
      rw [List.getElem?_append_right (by rw [h.tlen]; exact Nat.le_refl _), h.tlen, Nat.sub_self] at h2
      simp only [List.getElem?_cons_zero, Option.some.injEq] at h1 h2
      subst h1
      subst h2
      rw [List.getElem?_eq_getElem hp, he] at h3
      cases h3
      exact hc
theorem mod_next {ne p0 j : Nat} : ((p0 + j) % ne + 1) % ne = (p0 + (j + 1)) % ne := by
  rw [Nat.add_mod, Nat.mod_mod, ← Nat.add_mod, Nat.add_assoc]
end Go.Hp
/- Layer 10, plain: the reference's pieces, and which cards have too few entries. -/
set_option linter.unusedSimpArgs false
set_option linter.unusedVariables false
namespace Go.Hp
open Go Go.Eng Go.Pw1 Go.Proofs.YtlhdalcipflblaaDoor
def suitsR : Str → Str → Bool
  | [], s => s.isEmpty
  | a :: p, s => if a.toNat = 42 then (List.range (s.length + 1)).any fun i => suitsR p (s.drop i) else match s with
    | [] => false
    | c :: s => (decide (a.toNat = 63) || decide (a = c)) && suitsR p s
theorem suitsR_W : ∀ {p s : Str}, p.countP starX = 0 → suitsR p s = suitsW p s
  | [], [], _ => rfl
  | [], _ :: _, _ => rfl
  | a :: p, s, h => by
    rw [List.countP_cons] at h
    have h1 : starX a = false := by cases hs : starX a <;> simp_all
    have h3 : ¬ a.toNat = 42 := by
      unfold starX at h1
      rw [decide_eq_false_iff_not] at h1
      omega
    unfold suitsR
    rw [if_neg h3]
    cases s with
    | nil => rfl
    | cons c s =>
      show ((decide (a.toNat = 63) || decide (a = c)) && suitsR p s) = ((decide (a.toNat = 63) || decide (a = c)) && suitsW p s)
      rw [suitsR_W (by omega)]
theorem any_len {p s : Str} : ((List.range (s.length + 1)).any fun i => suitsW p (s.drop i)) = (decide (p.length ≤ s.length) && suitsW p (s.drop (s.length - p.length))) := by
  rw [Bool.eq_iff_iff, List.any_eq_true, Bool.and_eq_true, decide_eq_true_eq]
  constructor
  · rintro ⟨i, hi, h⟩
    have hi := List.mem_range.1 hi
    have h1 := (suitsW_iff.1 h).1
    rw [List.length_drop] at h1
    refine ⟨by omega, ?_⟩
    rw [show s.length - p.length = i by omega]
    exact h
  · rintro ⟨h1, h2⟩
    exact ⟨s.length - p.length, List.mem_range.2 (by omega), h2⟩
theorem suitsR_E : ∀ {p s : Str} {i : Nat}, starAt p = some i → p.countP starX ≤ 1 → suitsR p s = suitsE (p.take i) (p.drop (i + 1)) s
  | a :: p, s, i, h, hc => by
    rw [List.countP_cons] at hc
    unfold starAt at h
    by_cases ha : a.toNat = 42
    · rw [if_pos ha] at h
      cases h
      have h1 : starX a = true := by unfold starX; exact decide_eq_true (by omega)
      rw [h1] at hc
      simp only [if_true] at hc
      unfold suitsR
      rw [if_pos ha]
      have e : (fun i => suitsR p (s.drop i)) = fun i => suitsW p (s.drop i) := funext fun i => suitsR_W (by omega)
      rw [e, any_len]
      unfold suitsE
      simp [suitsW]
    · rw [if_neg ha] at h
      cases hs : starAt p with
      | none => rw [hs] at h; cases h
      | some j =>
        rw [hs] at h
        simp only [Option.map_some, Option.some.injEq] at h
        subst h
        unfold suitsR
        rw [if_neg ha]
        cases s with
        | nil => unfold suitsE; simp
        | cons c s =>
          show ((decide (a.toNat = 63) || decide (a = c)) && suitsR p s) = _
          rw [suitsR_E hs (by omega)]
          unfold suitsE
          simp only [List.take_succ_cons, List.drop_succ_cons, List.length_cons, suitsW]
          by_cases hle : (p.take j).length + (p.drop (j + 1)).length ≤ s.length
          · have e1 : (p.take j).length + 1 + (p.drop (j + 1)).length ≤ s.length + 1 := by omega
            have e2 : s.length + 1 - (p.drop (j + 1)).length = (s.length - (p.drop (j + 1)).length) + 1 := by omega
            rw [e2, List.drop_succ_cons, decide_eq_true hle, decide_eq_true e1]
            simp only [Bool.true_and, Bool.and_assoc]
          · have e1 : ¬ (p.take j).length + 1 + (p.drop (j + 1)).length ≤ s.length + 1 := by omega
            rw [decide_eq_false hle, decide_eq_false e1]
            simp
theorem starAt_no : ∀ {l : Str}, starAt l = none → l.countP starX = 0
  | [], _ => rfl
  | a :: l, h => by
    unfold starAt at h
    split at h
    · cases h
    · rename_i ha
      cases hs : starAt l with
      | some j => rw [hs] at h; cases h
      | none =>
        rw [List.countP_cons, starAt_no hs]
        have : starX a = false := by unfold starX; exact decide_eq_false (by omega)
        simp [this]
theorem suitsR_X {p s : Str} (h : p.countP starX ≤ 1) : suitsR p s = suitsX p s := by
  unfold suitsX
  cases hs : starAt p with
  | none => exact suitsR_W (starAt_no hs)
  | some i => exact suitsR_E hs h
theorem or_add {a k : Nat} (h : a < 2 ^ k) : a ||| 2 ^ k = a + 2 ^ k := by
  have := Nat.two_pow_add_eq_or_of_lt h 1
  rw [Nat.mul_one] at this
  rw [Nat.or_comm, ← this, Nat.add_comm]
theorem fit_at {m : MxA} {k j : Nat} {c : Tn} {e : En} (hk : k < m.cards.length) (hc : m.cards[k] = c) (hj : j < (esX m).length) (he : (esX m)[j] = e) : fitX c e = ((fsX m.pl).getD k 0).testBit j := by
  have hk2 : k < (fsX m.pl).length := by rw [fs_len]; exact hk
  have e1 : (fsX m.pl)[k] = fitsX m.pl c := by
    have : (m.cards.map (fitsX m.pl))[k]'(by simpa using hk) = fitsX m.pl c := by rw [List.getElem_map, hc]
    exact this
  rw [getD_at hk2 e1, fits_bit]
  have e2 : (entriesX m.pl.boxes)[j]? = some e := by
    show (esX m)[j]? = some e
    rw [List.getElem?_eq_getElem hj, he]
  rw [e2]
  rfl
/-- How many entries cards of a set fit, as the reference counts. -/
def anyC (fs : List Nat) (s e i : Nat) : Bool := (List.range i).any fun c => s.testBit c && (fs.getD c 0).testBit e
def cntE (fs : List Nat) (s x : Nat) : Nat := (List.range x).countP fun e => anyC fs s e fs.length
theorem anyC_s (fs : List Nat) (s e i : Nat) : anyC fs s e (i + 1) = (anyC fs s e i || (s.testBit i && (fs.getD i 0).testBit e)) := by
  unfold anyC
  rw [List.range_succ, List.any_append]
  simp
theorem cntE_s (fs : List Nat) (s x : Nat) : cntE fs s (x + 1) = cntE fs s x + if anyC fs s x fs.length then 1 else 0 := by
  unfold cntE
  rw [List.range_succ, List.countP_append]
  simp [List.countP_cons]
theorem cntE_le (fs : List Nat) (s x : Nat) : cntE fs s x ≤ x := by
  unfold cntE
  have := List.countP_le_length (p := fun e => anyC fs s e fs.length) (l := List.range x)
  rw [List.length_range] at this
  exact this
theorem cntE_short {ne : Nat} (hn : ne ≤ 12) {fs : List Nat} (hf : ∀ f ∈ fs, f < 2 ^ ne) (s : Nat) : shortX fs s = decide (cntE fs s ne < pc s 12) := by
  have e : cntE fs s ne = pc (unionL s 0 fs) 12 := by
    rw [pc_top12 hn (unionL_lt s fs 0 hf)]
    unfold cntE
    refine List.countP_congr fun e _ => ?_
    rw [union_bit]
    unfold anyC
    simp
  unfold shortX
  rw [e]
/-- The best set so far. -/
def BestS (fs : List Nat) (k b : Nat) : Prop := (b = 0 ∧ ∀ t, 0 < t → t < k → shortX fs t = false) ∨ (0 < b ∧ b < k ∧ shortX fs b = true ∧ ∀ t, 0 < t → t < k → shortX fs t = true → pc b 12 < pc t 12 ∨ (pc b 12 = pc t 12 ∧ b ≤ t))
theorem BestS.start (fs : List Nat) : BestS fs 1 0 := .inl ⟨rfl, fun t h1 h2 => by omega⟩
theorem BestS.yes {fs : List Nat} {k b : Nat} (hk : 0 < k) (h : BestS fs k b) (hs : shortX fs k = true) (hb : b = 0 ∨ pc k 12 < pc b 12) : BestS fs (k + 1) k := by
  refine .inr ⟨hk, by omega, hs, fun t h1 h2 h3 => ?_⟩
  by_cases e : t = k
  · subst e; exact .inr ⟨rfl, Nat.le_refl _⟩
  · rcases h with ⟨h4, h5⟩ | ⟨h4, h5, h6, h7⟩
    · rw [h5 t h1 (by omega)] at h3; cases h3
    · have := h7 t h1 (by omega) h3
      omega
theorem BestS.no {fs : List Nat} {k b : Nat} (h : BestS fs k b) (hs : shortX fs k = true → b ≠ 0 ∧ pc b 12 ≤ pc k 12) : BestS fs (k + 1) b := by
  rcases h with ⟨h4, h5⟩ | ⟨h4, h5, h6, h7⟩
  · refine .inl ⟨h4, fun t h1 h2 => ?_⟩
    by_cases e : t = k
    · subst e
      cases hsh : shortX fs t with
      | false => rfl
      | true => exact absurd h4 (hs hsh).1
    · exact h5 t h1 (by omega)
  · refine .inr ⟨h4, by omega, h6, fun t h1 h2 h3 => ?_⟩
    by_cases e : t = k
    · subst e
      have := (hs h3).2
      omega
    · exact h7 t h1 (by omega) h3
theorem BestS.why {fs : List Nat} {b s e : Nat} (h : BestS fs (2 ^ fs.length) b) (hI : WhyIs fs s e) : b = s := by
  rcases h with ⟨h4, h5⟩ | ⟨h4, h5, h6, h7⟩
  · rcases hI.se with ⟨h1, _⟩ | ⟨h1, _, h2⟩
    · omega
    · rw [h5 s h1 hI.lt] at h2; cases h2
  · have h8 := hI.min b h5 h6
    rcases hI.se with ⟨h1, _⟩ | ⟨h1, _, h2⟩
    · omega
    · have := h7 s h1 hI.lt h2
      omega
theorem BestS.lt {fs : List Nat} {k b : Nat} (h : BestS fs k b) (hk : 0 < k) : b < k := by
  rcases h with ⟨h4, _⟩ | ⟨_, h5, _⟩ <;> omega
theorem card_good {m : MxA} (hX : mixedX m.pl = true) {c : Tn} (hc : c ∈ m.cards) : c.number.countP starX ≤ 1 ∧ c.text.countP starX ≤ 1 := by
  rw [mixed_eq] at hX
  simp only [Bool.and_eq_true, Bool.not_eq_true', List.any_eq_false] at hX
  have h1 := hX.2 c hc
  have h2 : badCard c = false := by simpa using h1
  rw [bad_iff] at h2
  exact ⟨((piece_iff _).1 h2.2.1).2.2, ((piece_iff _).1 h2.2.2).2.2⟩
end Go.Hp
/- Layer 10, plain: what HeapTrue's boxes and cards answer. -/
set_option linter.unusedSimpArgs false
set_option linter.unusedVariables false
namespace Go.Hp
open Go Go.Eng Go.Pw1 Go.Proofs.YtlhdalcipflblaaDoor
def trueA (L : List TB) (bo co : Nat) (cl : List Tn) (CD : Eng.Own) : MxA := ⟨tBx L, some ⟨bo, 0, none⟩, bo, 0, co, cl, ownQ CD, ownK CD, 0, ownC CD⟩
theorem tBx_len (L : List TB) : (tBx L).length = L.length := by simp [tBx]
theorem tBx_mem {L : List TB} {x : BxA} (h : x ∈ tBx L) : ∃ B ∈ L, x = B.bx := by
  obtain ⟨B, hB, rfl⟩ := List.mem_map.1 h
  exact ⟨B, List.mem_reverse.1 hB, rfl⟩
theorem badT_not {t : Str} (h : GoodT t) : badTitle t = false := by
  have h1 := h.pos
  have h2 := h.le
  have h3 : t.countP letterX = t.length := by
    rw [List.countP_eq_length]
    exact fun a ha => List.all_eq_true.1 h.let_ a ha
  unfold badTitle within
  rw [h3]
  simp
  omega
theorem badB_not {B : TB} (h : GoodB B) : badBox B.bx.bx = false := by
  have h1 := h.col
  unfold badBox
  have h2 : B.bx.bx.titles.any badTitle = false := List.any_eq_false.2 fun t ht => by rw [badT_not (h.tit t ht)]; exact Bool.false_ne_true
  rw [h2]
  show (!within B.colour 1 9 || false) = false
  unfold within
  simp
  omega
theorem Chosen.bad {ES : List En} {k u : Nat} {tl : List Nat} {cl : List Tn} (h : Chosen ES k tl cl u) : ∀ c ∈ cl, badCard c = false := by
  intro c hc
  obtain ⟨i, hi, rfl⟩ := List.mem_iff_getElem.1 hc
  have hi2 : i < tl.length := by rw [h.tlen, ← h.clen]; exact hi
  have ht := h.lt tl[i] (List.getElem_mem hi2)
  exact (h.fit i cl[i] tl[i] ES[tl[i]] (List.getElem?_eq_getElem hi) (List.getElem?_eq_getElem hi2) (List.getElem?_eq_getElem ht)).ok
theorem many_tB {L : List TB} (hg : ∀ B ∈ L, GoodB B) (hL : L.length ≤ 3) : manyX ((tBx L).map (·.bx)) ≤ 12 := by
  rw [← tEs_len]
  have := (tEs_le hg).2
  omega
theorem true_mixed {L : List TB} {bo co : Nat} {cl : List Tn} {CD : Eng.Own} (hg : ∀ B ∈ L, GoodB B) (hL : L.length ≤ 3) (hc : ∀ c ∈ cl, badCard c = false) (hl : cl.length ≤ 8) : mixedX (trueA L bo co cl CD).pl = true := by
  have h1 : ((tBx L).map (·.bx)).length ≤ 4 := by rw [List.length_map, tBx_len]; omega
  have h2 : ((tBx L).map (·.bx)).any badBox = false := by
    refine List.any_eq_false.2 fun b hb => ?_
    obtain ⟨x, hx, rfl⟩ := List.mem_map.1 hb
    obtain ⟨B, hB, rfl⟩ := tBx_mem hx
    rw [badB_not (hg B hB)]; exact Bool.false_ne_true
  have h3 : cl.any badCard = false := List.any_eq_false.2 fun c h => by rw [hc c h]; exact Bool.false_ne_true
  show (decide (((tBx L).map (·.bx)).length ≤ 4) && decide (cl.length ≤ 8) && !((tBx L).map (·.bx)).any badBox && decide (manyX ((tBx L).map (·.bx)) ≤ 12) && !cl.any badCard) = true
  rw [h2, h3, decide_eq_true h1, decide_eq_true hl, decide_eq_true (many_tB hg hL)]
  rfl
theorem true_sm {L : List TB} {bo co : Nat} {cl : List Tn} {CD : Eng.Own} (hg : ∀ B ∈ L, GoodB B) (hL : L.length ≤ 3) (hc : ∀ c ∈ cl, badCard c = false) (hl : cl.length ≤ 8) : MSm (trueA L bo co cl CD) := by
  refine ⟨?_, ?_, fun x hx => ?_, fun c h => ?_⟩
  · show (tBx L).length ≤ 1000
    rw [tBx_len]; omega
  · show cl.length ≤ 1000
    omega
  · obtain ⟨B, hB, rfl⟩ := tBx_mem hx
    have h1 := (hg B hB).n
    exact ⟨by show B.titles.length ≤ 1000; omega, fun t ht => by have := ((hg B hB).tit t ht).le; omega⟩
  · obtain ⟨_, h2, h3⟩ := (bad_iff c).1 (hc c h)
    have h2 := ((piece_iff _).1 h2).1
    have h3 := ((piece_iff _).1 h3).1
    omega
theorem true_ok {w : World} {L : List TB} {bo co k : Nat} {cl : List Tn} {CD : Eng.Own} {ro : List Value} (hb : w.heap[bo]? = some (.cells (((tBx L).map BxA.cells).flatten ++ ro).toArray 46 (0, 0))) (ht : ∀ b o, (b, o) ∈ tR L → w.heap[b]? = some o) (hcd : OwnOk 3 CD k (cl.map Tn.cells).flatten) (hc : ∀ b o, (b, o) ∈ ownB 50 CD (cl.map Tn.cells).flatten → w.heap[b]? = some o) : MOk w (trueA L bo co cl CD) := by
  refine ⟨Sl.rowsR (xs := (tBx L).map BxA.cells) (t := ro) hb (fun x hx => by obtain ⟨t, _, rfl⟩ := List.mem_map.1 hx; rfl), fun x hx => ?_, own_sl (f := Tn.cells) (fun _ => rfl) (by decide) hcd hc⟩
  obtain ⟨B, hB, rfl⟩ := tBx_mem hx
  exact Sl.rowsR (xs := strsV B.titles) (t := B.r) (ht _ _ (List.mem_map.2 ⟨B, hB, rfl⟩)) (fun x hx => by obtain ⟨t, _, rfl⟩ := List.mem_map.1 hx; rfl)
theorem true_way {L : List TB} {bo co k u : Nat} {tl : List Nat} {cl : List Tn} {CD : Eng.Own} (h : Chosen (tEs L) k tl cl u) : Way (esX (trueA L bo co cl CD)).length (fsX (trueA L bo co cl CD).pl) 0 tl := by
  refine ⟨by rw [fs_len, h.tlen]; exact h.clen.symm, fun i hi => ?_, fun x _ => Nat.zero_testBit x, h.nd⟩
  have ht : tl[i] < (tEs L).length := h.lt tl[i] (List.getElem_mem hi)
  have hi2 : i < cl.length := by rw [h.clen, ← h.tlen]; exact hi
  refine ⟨ht, ?_⟩
  rw [← fit_at (m := trueA L bo co cl CD) (k := i) (c := cl[i]) (e := (tEs L)[tl[i]]) hi2 rfl ht rfl]
  exact (h.fit i cl[i] tl[i] _ (List.getElem?_eq_getElem hi2) (List.getElem?_eq_getElem hi) (List.getElem?_eq_getElem ht)).fit
theorem andN_lt12 {a b : Nat} (h : a < 4096) : andN a b < 4096 := Nat.xor_lt_two_pow (n := 12) h (Nat.lt_of_le_of_lt Nat.and_le_left h)
structure TrueC (m : MxA) (l : List Nat) (u cn lo ca : Nat) (SU : List Int) : Prop where
  count : CountX m.pl = ((cn : Int), 0)
  cpos : 0 < cn
  sure : SureX m.pl = (SU, 0)
  slen : SU.length = l.length
  lost : LostX m.pl = (((lo : Int), (ca : Int)), 0)
  lolt : lo < 4096
  calt : ca < 4096
  why : WhyX m.pl = (0, 0)
  lo0 : lo &&& u = 0
  ca0 : andN (andN (2 ^ (esX m).length - 1) u) ca = 0
  at_ : ∀ i (hi : i < l.length), ∃ f sh : Nat, ∃ s : Int, FitsX m.pl (i : Int) = ((f : Int), 0) ∧ f < 4096 ∧ f.testBit l[i] = true ∧ ShareX m.pl (i : Int) ((l[i] : Nat) : Int) = ((sh : Int), 0) ∧ 0 < sh ∧ SU[i]? = some s ∧ (s = -1 ∨ s = ((l[i] : Nat) : Int))
theorem true_all {m : MxA} (hX : mixedX m.pl = true) {l : List Nat} {u : Nat} (hw : Way (esX m).length (fsX m.pl) 0 l) (hu : ∀ x, u.testBit x = decide (x ∈ l)) : ∃ cn lo ca SU, TrueC m l u cn lo ca SU := by
  obtain ⟨h4, h8, h12⟩ := mixed_ok hX
  have hT := true_law hX hw hu
  have hc := hT.cnt
  have hll : l.length = m.cards.length := by rw [hw.len, fs_len]
  have hwe : waysE m.pl = 0 := by unfold waysE; rw [if_pos hX, if_neg (by omega)]
  have hp : 2 ^ (esX m).length ≤ 2 ^ 12 := Nat.pow_le_pow_right (by decide) h12
  refine ⟨cntX m.pl, lostX m.pl, canX m.pl, (List.range m.cards.length).map (sureC m.pl), ?_⟩
  refine ⟨by unfold CountX; rw [if_pos hX], hc, by unfold SureX; rw [if_pos hwe]; rfl, by simp [hll], by unfold LostX; rw [if_pos hwe], ?_, ?_, hT.why, hT.lost, hT.can, fun i hi => ?_⟩
  · have := setOf_lt (fun e => decide (usedL (neX m.pl) (fsX m.pl) e = 0)) (neX m.pl)
    exact Nat.lt_of_lt_of_le this hp
  · have := setOf_lt (fun e => decide (usedL (neX m.pl) (fsX m.pl) e < cntX m.pl)) (neX m.pl)
    exact Nat.lt_of_lt_of_le this hp
  · obtain ⟨a1, a2, a3, a4⟩ := hT.at_ i hi
    have hi2 : i < m.cards.length := by omega
    have hcard : cardX m.pl (i : Int) = true := by
      show within (i : Int) 0 ((m.cards.length : Int) - 1) = true
      unfold within; simp; omega
    have hent : entryX m.pl ((l[i] : Nat) : Int) = true := by
      show within ((l[i] : Nat) : Int) 0 (((esX m).length : Int) - 1) = true
      unfold within; simp; omega
    refine ⟨(fsX m.pl).getD i 0, shareL (esX m).length (fsX m.pl) i l[i], sureC m.pl i, ?_, ?_, a1, ?_, a3, by simp [hi2], a4⟩
    · unfold FitsX; rw [if_pos hX, if_pos hcard, Int.toNat_natCast]
    · have hi3 : i < (fsX m.pl).length := by rw [fs_len]; exact hi2
      rw [getD_at hi3 rfl]
      exact Nat.lt_of_lt_of_le (fs_lt m _ (List.getElem_mem hi3)) hp
    · unfold ShareX; rw [if_pos hX, hcard, hent, if_pos (by rfl), Int.toNat_natCast, Int.toNat_natCast]; rfl
end Go.Hp
namespace Go.Proofs.YtlhdalcipflblaaDoor
open Go Go.Eng Go.Hp Go.Pw1

theorem sure_true (m : MxA) (hsm : MSm m) (W : World) (hM : MOk W m) {SU : List Int} (h : SureX m.pl = (SU, 0)) : Calls Tryd.prog 25 #[m.v] W
    (News (fun z : IO SU => .tuple #[.slice (ownQ z.1) SU.length (ownC z.1), .int .i64 0]) (fun z => ownB 3 z.1 (intsW SU).flatten ++ []) W) := by
  have h9 := sure_any m hsm W hM
  rw [h] at h9
  exact h9
end Go.Proofs.YtlhdalcipflblaaDoor
/- The facts on the tables of types and on the entries of functions that the walks use. Written by program. -/
set_option linter.unusedSimpArgs false
set_option linter.unusedVariables false
namespace Go.Proofs.YtlhdalcipflblaaDoor
open Go Go.Eng
theorem ap_22 : apB Tryd.prog 22 = some (46, 2, 32) := by kernel_rfl
theorem ap_44 : apB Tryd.prog 44 = some (9, 1, 16) := by kernel_rfl
theorem ent_30 : Enters Tryd.prog 30 := enters_of Tryd.func30 (by kernel_rfl) rfl
theorem ent_32 : Enters Tryd.prog 32 := enters_of Tryd.func32 (by kernel_rfl) rfl
theorem zero_5 : zeroB Tryd.prog 5 = some [.int .u8 0] := by kernel_rfl
end Go.Proofs.YtlhdalcipflblaaDoor
/- Walks of the laws of layer 10: HeapTrue. -/
set_option linter.unusedSimpArgs false
set_option linter.unusedVariables false
namespace Go.Hp
open Go Go.Eng Go.Pw1
theorem ens_snoc (l : List En) (a : En) : (((l ++ [a]).map En.cells).flatten) = (l.map En.cells).flatten ++ a.cells := by simp
theorem strs_snoc (l : List Str) (a : Str) : (strsV (l ++ [a])).flatten = (strsV l).flatten ++ [.string (bs a)] := by simp [strsV]
theorem boxEn_next (c : Int) (l : List Str) (a : Str) : boxEn c 0 (l ++ [a]) = boxEn c 0 l ++ [⟨c, itoa (l.length + 1), a⟩] := by
  rw [boxEn_snoc, Nat.zero_add]
theorem u8_inI {p : Int} (h0 : 0 ≤ p) (h1 : p < 256) : IntKind.u8.wrap p = p := IntWalk.u8_in _ ⟨h0, by omega⟩
theorem tEs_ok {L : List TB} (h : ∀ B ∈ L, GoodB B) (hl : L.length ≤ 3) : ∀ e ∈ tEs L, EnOk e := by
  intro e he
  unfold tEs entriesX at he
  obtain ⟨b, hb, he⟩ := List.mem_flatMap.1 he
  obtain ⟨B, hB, rfl⟩ := List.mem_map.1 hb
  obtain ⟨C, hC, rfl⟩ := List.mem_map.1 hB
  have hg := h C (List.mem_reverse.1 hC)
  obtain ⟨h1, h2, k, h3, h4⟩ := boxEn_idx he
  have h5 := hg.tit e.title h2
  have h6 := hg.n
  have h7 : k ≤ 0 + C.titles.length := h3
  obtain ⟨g1, g2⟩ := itoa_good k (by omega)
  have hc : e.colour = C.colour := h1
  have := hg.col
  exact ⟨by omega, h5.let_, ⟨h5.pos, by have := h5.le; omega⟩, by rw [h4]; exact ⟨g1, g2, itoa_len k⟩⟩
theorem nat_of {p : Int} (h : 0 ≤ p) : ∃ n : Nat, p = (n : Int) := ⟨p.toNat, by omega⟩
end Go.Hp
namespace Go.Proofs.YtlhdalcipflblaaDoor
open Go Go.Eng Go.Hp Go.Pw1

set_option maxHeartbeats 4000000 in
set_option maxRecDepth 4000 in
theorem htrue_ok (c : Nat) (hc : c < 256) (l : List Int) (hlr : ∀ v ∈ l, 0 ≤ v ∧ v ≤ 65535) (hll : l.length ≤ maxLen) (q : Option Addr) (b o cap : Nat) (W : World) (hS : Sl W q b o 1 (u16s l)) (hpos : 0 < l.length) : Calls Tryd.prog 5 #[.int .u8 (c : Int), .slice q l.length cap] W (Pure (.bool true) W) := by
  have hlne : u16s l ≠ [] := by intro h; have h2 := congrArg List.length h; simp at h2; rw [h2] at hpos; simp at hpos
  have hl : By l := ⟨hpos, hll, hlr⟩
  refine calls_start Tryd.func5 rfl rfl ?_
  refine RunC.seq ?_
  refine RunC.region ?_
  refine RunL.val (Val.pure rfl) rfl rfl rfl ?_
  refine RunL.nil ?_
  refine RunE.next ?_
  refine RunC.seq ?_
  refine RunC.seq ?_
  refine RunC.region ?_
  refine RunL.val (Val.pure rfl) rfl rfl rfl ?_
  refine RunL.val (Val.len_sl rfl sl_41) rfl rfl rfl ?_
  refine RunL.val (Val.pure rfl) rfl rfl rfl ?_
  refine RunL.nil ?_
  refine RunE.next ?_
  refine RunC.cond rfl (fun h => absurd h (by simp [List.length_pos_iff.1 hpos])) ?_
  intro c0
  clear c0
  refine RunC.skip ?_
  refine RunE.next ?_
  refine RunC.seq ?_
  refine RunC.region ?_
  refine RunL.val (Val.pure rfl) rfl rfl rfl ?_
  refine RunL.callN (isCall_func rfl ent_30) rfl rfl rfl (fun w hm => hdraws_calls l q cap w) (fun b36 => ?_)
  refine RunL.val (Val.pure rfl) rfl rfl rfl ?_
  refine RunL.nil ?_
  refine RunE.next ?_
  refine RunC.seq ?_
  refine RunC.region ?_
  refine RunL.new (New.alloc zero_25) rfl rfl rfl (fun b6 => ?_)
  refine RunL.nil ?_
  refine RunE.next ?_
  refine RunC.seq ?_
  refine RunC.region ?_
  refine RunL.val (Val.pure rfl) rfl rfl rfl ?_
  refine RunL.nil ?_
  refine RunE.next ?_
  refine RunC.seq ?_
  refine RunC.seq ?_
  refine RunC.region ?_
  refine RunL.val (Val.pure rfl) rfl rfl rfl ?_
  refine RunL.callX (isCall_value rfl rfl ent_59) rfl rfl rfl (.there .here) (fun w hm => hdraw_calls l hl 3 (by omega) 0 (by omega) q b o cap _ _ w (hm.at (.tail _ (.head _))) (hm.at (.tail _ (.tail _ (.head _)))) (ne_of_T hm (.tail _ (.tail _ (.head _))) (.tail _ (.head _)) (by decide)) (hS.ne (by decide) hm (.tail _ (.head _)) hlne) (hS.mono (by decide) hm (by simp))) (fun x38 hx38 => ?_)
  obtain ⟨n38, rfl⟩ := nat_of hx38.1
  refine RunL.val (Val.addN (a := 1) (b := n38) (1 + n38) rfl rfl rfl (i64_inN (by omega))) rfl rfl rfl ?_
  refine RunL.val (Val.pure rfl) rfl rfl rfl ?_
  refine RunL.nil ?_
  refine RunE.next ?_
  refine RunC.block ?_
  refine RunC.loopX (X := Nat × Eng.Own × Eng.Own × List TB) (n0 := [(b36.2, _)]) (1 + n38) (fun k x q => (40, .int .i64 (k : Int)) :: (7, ownV x.2.1 (tEs x.2.2.2).length) :: q) (fun _ _ => _) (fun k x => [(b6, .cells [ownV x.2.2.1 x.2.2.2.length, .slice none 0 0].toArray 25 (0, 0)), (b36.1, .cells [.int .i64 (x.1 : Int)].toArray 3 (0, 0))]) (fun k x => ownB 50 x.2.1 ((tEs x.2.2.2).map En.cells).flatten ++ (ownB 46 x.2.2.1 ((tBx x.2.2.2).map BxA.cells).flatten ++ (tR x.2.2.2 ++ []))) (fun k x => x.1 ≤ 1 + k * 60 ∧ OwnOk 3 x.2.1 (tEs x.2.2.2).length ((tEs x.2.2.2).map En.cells).flatten ∧ OwnOk 2 x.2.2.1 x.2.2.2.length ((tBx x.2.2.2).map BxA.cells).flatten ∧ x.2.2.2.length = k ∧ ∀ B ∈ x.2.2.2, GoodB B) (1, none, none, []) ⟨by simp, OwnOk.start, OwnOk.start, rfl, fun B hB => by cases hB⟩ rfl (Sub.consE (t := 40) rfl rfl (Sub.consE (t := 7) rfl rfl (Sub.cons (t := 0) rfl (Sub.cons (t := 1) rfl (Sub.cons (t := 5) rfl (Sub.cons (t := 6) rfl (Sub.cons (t := 39) rfl (Sub.nil _)))))))) (.cons .here rfl (.cons .here rfl (.cons .here rfl (Pick.same rfl)))) ?_
  intro k x kN kI
  obtain ⟨A, e, O, L⟩ := x
  obtain ⟨hA, he, ho, hLk, hLg⟩ := kI
  dsimp only at hA he ho hLk hLg ⊢
  have hEl := tEs_le hLg
  refine RunC.seq ?_
  refine RunC.region ?_
  refine RunL.val (Val.pure rfl) rfl rfl rfl ?_
  refine RunL.nil ?_
  refine RunE.next ?_
  refine RunC.seq ?_
  refine RunC.cond rfl ?_ ?_
  · intro c1
    have c1' := c1; clear c1
    try simp only [decide_eq_true_eq, decide_eq_false_iff_not, Bool.not_eq_true', Bool.not_eq_false', Bool.and_eq_true, Bool.or_eq_true, Bool.and_eq_false_iff, Bool.or_eq_false_iff, Int.not_le, Int.not_lt] at c1'
    have hk : k < 1 + n38 := by omega
    refine RunC.skip ?_
    refine RunE.next ?_
    refine RunC.seq ?_
    refine RunC.block ?_
    refine RunC.seq ?_
    refine RunC.region ?_
    refine RunL.val (Val.pure rfl) rfl rfl rfl ?_
    refine RunL.callX (isCall_value rfl rfl ent_59) rfl rfl rfl (.there .here) (fun w hm => hdraw_calls l hl 3 (by omega) A (by omega) q b o cap _ _ w (hm.at (.tail _ (.head _))) (hm.at (.tail _ (.tail _ (.head _)))) (ne_of_T hm (.tail _ (.tail _ (.head _))) (.tail _ (.head _)) (by decide)) (hS.ne (by decide) hm (.tail _ (.head _)) hlne) (hS.mono (by decide) hm (by simp))) (fun x43 hx43 => ?_)
    obtain ⟨n43, rfl⟩ := nat_of hx43.1
    obtain ⟨col, hcol⟩ : ∃ col : Int, ((1 + n43 : Nat) : Int) = col := ⟨_, rfl⟩
    refine RunL.val (Val.addN (a := 1) (b := n43) (1 + n43) rfl rfl rfl (i64_inN (by omega))) rfl rfl rfl ?_
    refine RunL.val (Val.build (parts := [(0, .tmp 44)]) rfl zero_46 places_46 rfl) rfl rfl rfl ?_
    refine RunL.new (New.alloc zero_46) rfl rfl rfl (fun b8 => ?_)
    refine RunL.sto (Sto.store rfl rfl .here ty_46 rfl rfl) rfl rfl ?_
    refine RunL.nil ?_
    refine RunE.next ?_
    refine RunC.seq ?_
    refine RunC.seq ?_
    refine RunC.region ?_
    refine RunL.val (Val.pure rfl) rfl rfl rfl ?_
    refine RunL.callX (isCall_value rfl rfl ent_59) rfl rfl rfl (.there (.there .here)) (fun w hm => hdraw_calls l hl 4 (by omega) (A + 1) (by omega) q b o cap _ _ w (hm.at (.tail _ (.tail _ (.head _)))) (hm.at (.tail _ (.tail _ (.tail _ (.head _))))) (ne_of_T hm (.tail _ (.tail _ (.tail _ (.head _)))) (.tail _ (.tail _ (.head _))) (by decide)) (hS.ne (by decide) hm (.tail _ (.tail _ (.head _))) hlne) (hS.mono (by decide) hm (by simp))) (fun x47 hx47 => ?_)
    obtain ⟨n47, rfl⟩ := nat_of hx47.1
    refine RunL.val (Val.addN (a := 1) (b := n47) (1 + n47) rfl rfl rfl (i64_inN (by omega))) rfl rfl rfl ?_
    refine RunL.val (Val.pure rfl) rfl rfl rfl ?_
    refine RunL.nil ?_
    refine RunE.next ?_
    refine RunC.block ?_
    refine RunC.loopX (X := Nat × Eng.Own × Eng.Own × List Str) (n0 := [(b6, _), (b36.2, _)]) (1 + n47) (fun j y q => (49, .int .i64 (j : Int)) :: (7, ownV y.2.1 (tEs L ++ boxEn col 0 y.2.2.2).length) :: q) (fun _ _ => _) (fun j y => [(b8, .cells [.int .i64 col, ownV y.2.2.1 y.2.2.2.length].toArray 46 (0, 0)), (b36.1, .cells [.int .i64 (y.1 : Int)].toArray 3 (0, 0))]) (fun j y => ownB 9 y.2.2.1 (strsV y.2.2.2).flatten ++ (ownB 50 y.2.1 ((tEs L ++ boxEn col 0 y.2.2.2).map En.cells).flatten ++ (ownB 46 O ((tBx L).map BxA.cells).flatten ++ (tR L ++ [])))) (fun j y => y.1 ≤ A + 2 + j * 5 ∧ OwnOk 3 y.2.1 (tEs L ++ boxEn col 0 y.2.2.2).length ((tEs L ++ boxEn col 0 y.2.2.2).map En.cells).flatten ∧ OwnOk 1 y.2.2.1 y.2.2.2.length (strsV y.2.2.2).flatten ∧ y.2.2.2.length = j ∧ ∀ t ∈ y.2.2.2, GoodT t) (A + 1 + 1, e, none, []) ⟨by simp, (by simpa [boxEn] using he), OwnOk.start, rfl, fun t ht => by cases ht⟩ rfl (Sub.consE (t := 49) rfl rfl (Sub.consE (t := 7) rfl (by simp [boxEn]) (Sub.cons (t := 0) rfl (Sub.cons (t := 1) rfl (Sub.cons (t := 5) rfl (Sub.cons (t := 6) rfl (Sub.cons (t := 8) rfl (Sub.cons (t := 39) rfl (Sub.cons (t := 40) rfl (Sub.cons (t := 48) rfl (Sub.nil _))))))))))) (.cons .here (by rw [← hcol]; rfl) (.cons (.there .here) rfl (.cons .here rfl (.cons .here rfl (Pick.same (by simp [boxEn, ownB])))))) ?_
    intro j y jN jI
    obtain ⟨A2, ye, yb, TT⟩ := y
    obtain ⟨hA2, hye, hyb, hTj, hTg⟩ := jI
    dsimp only at hA2 hye hyb hTj hTg ⊢
    have he := hye
    have hb := hyb
    refine RunC.seq ?_
    refine RunC.region ?_
    refine RunL.val (Val.pure rfl) rfl rfl rfl ?_
    refine RunL.nil ?_
    refine RunE.next ?_
    refine RunC.seq ?_
    refine RunC.cond rfl ?_ ?_
    · intro c2
      have c2' := c2; clear c2
      try simp only [decide_eq_true_eq, decide_eq_false_iff_not, Bool.not_eq_true', Bool.not_eq_false', Bool.and_eq_true, Bool.or_eq_true, Bool.and_eq_false_iff, Bool.or_eq_false_iff, Int.not_le, Int.not_lt] at c2'
      have hj : j < 1 + n47 := by omega
      have hbl : (tEs L ++ boxEn col 0 TT).length ≤ 100 := by (rw [List.length_append, boxEn_len]; omega)
      refine RunC.skip ?_
      refine RunE.next ?_
      refine RunC.seq ?_
      refine RunC.block ?_
      refine RunC.seq ?_
      refine RunC.region ?_
      refine RunL.val (Val.pure rfl) rfl rfl rfl ?_
      refine RunL.val (Val.pure rfl) rfl rfl rfl ?_
      refine RunL.nil ?_
      refine RunE.next ?_
      refine RunC.seq ?_
      refine RunC.region ?_
      refine RunL.val (Val.pure rfl) rfl rfl rfl ?_
      refine RunL.callX (isCall_value rfl rfl ent_59) rfl rfl rfl (.there .here) (fun w hm => hdraw_calls l hl 2 (by omega) A2 (by omega) q b o cap _ _ w (hm.at (.tail _ (.head _))) (hm.at (.tail _ (.tail _ (.tail _ (.head _))))) (ne_of_T hm (.tail _ (.tail _ (.tail _ (.head _)))) (.tail _ (.head _)) (by decide)) (hS.ne (by decide) hm (.tail _ (.head _)) hlne) (hS.mono (by decide) hm (by simp))) (fun x53 hx53 => ?_)
      obtain ⟨n53, rfl⟩ := nat_of hx53.1
      refine RunL.val (Val.convInt rfl und_3 und_5 (u8_inI (by omega) (by omega))) rfl rfl rfl ?_
      refine RunL.val (Val.addN (a := 97) (b := n53) (97 + n53) rfl rfl rfl (u8_inN (by omega))) rfl rfl rfl ?_
      refine RunL.val (Val.pure rfl) rfl rfl rfl ?_
      refine RunL.callX (isCall_value rfl rfl ent_59) rfl rfl rfl (.there .here) (fun w hm => hdraw_calls l hl 3 (by omega) (A2 + 1) (by omega) q b o cap _ _ w (hm.at (.tail _ (.head _))) (hm.at (.tail _ (.tail _ (.tail _ (.head _))))) (ne_of_T hm (.tail _ (.tail _ (.tail _ (.head _)))) (.tail _ (.head _)) (by decide)) (hS.ne (by decide) hm (.tail _ (.head _)) hlne) (hS.mono (by decide) hm (by simp))) (fun x57 hx57 => ?_)
      obtain ⟨n57, rfl⟩ := nat_of hx57.1
      refine RunL.val (Val.convInt rfl und_3 und_5 (u8_inI (by omega) (by omega))) rfl rfl rfl ?_
      refine RunL.val (Val.addN (a := 97) (b := n57) (97 + n57) rfl rfl rfl (u8_inN (by omega))) rfl rfl rfl ?_
      refine RunL.val (Val.pure rfl) rfl rfl rfl ?_
      refine RunL.callX (isCall_value rfl rfl ent_59) rfl rfl rfl (.there .here) (fun w hm => hdraw_calls l hl 2 (by omega) (A2 + 1 + 1) (by omega) q b o cap _ _ w (hm.at (.tail _ (.head _))) (hm.at (.tail _ (.tail _ (.tail _ (.head _))))) (ne_of_T hm (.tail _ (.tail _ (.tail _ (.head _)))) (.tail _ (.head _)) (by decide)) (hS.ne (by decide) hm (.tail _ (.head _)) hlne) (hS.mono (by decide) hm (by simp))) (fun x61 hx61 => ?_)
      obtain ⟨n61, rfl⟩ := nat_of hx61.1
      refine RunL.val (Val.convInt rfl und_3 und_5 (u8_inI (by omega) (by omega))) rfl rfl rfl ?_
      refine RunL.val (Val.addN (a := 97) (b := n61) (97 + n61) rfl rfl rfl (u8_inN (by omega))) rfl rfl rfl ?_
      refine RunL.new (New.buildSlice (parts := [(0, .tmp 55), (1, .tmp 59), (2, .tmp 63)]) rfl sl_47 zero_5 rfl rfl rfl rfl) rfl rfl rfl (fun b64 => ?_)
      refine RunL.val (Val.pure rfl) rfl rfl rfl ?_
      refine RunL.callX (isCall_value rfl rfl ent_59) rfl rfl rfl (.there (.there .here)) (fun w hm => hdraw_calls l hl 3 (by omega) (A2 + 1 + 1 + 1) (by omega) q b o cap _ _ w (hm.at (.tail _ (.tail _ (.head _)))) (hm.at (.tail _ (.tail _ (.tail _ (.tail _ (.head _)))))) (ne_of_T hm (.tail _ (.tail _ (.tail _ (.tail _ (.head _))))) (.tail _ (.tail _ (.head _))) (by decide)) (hS.ne (by decide) hm (.tail _ (.tail _ (.head _))) hlne) (hS.mono (by decide) hm (by simp))) (fun x66 hx66 => ?_)
      obtain ⟨n66, rfl⟩ := nat_of hx66.1
      obtain ⟨S, hSt⟩ : ∃ S, tit n53 n57 n61 (1 + n66) = S := ⟨_, rfl⟩
      have hSg : GoodT S := hSt ▸ tit_good (by omega) (by omega) (by omega) (by omega) (by omega)
      have hSl : S.length = 1 + n66 := by (rw [← hSt]; exact tit_len (by omega))
      have hE86 : ((tEs L ++ boxEn col 0 (TT ++ [S])).map En.cells).flatten = ((tEs L ++ boxEn col 0 TT).map En.cells).flatten ++ En.cells ⟨col, itoa (j + 1), S⟩ := by (rw [boxEn_next, ← List.append_assoc, ens_snoc, hTj])
      have hL86 : (tEs L ++ boxEn col 0 (TT ++ [S])).length = (tEs L ++ boxEn col 0 TT).length + 1 := by (rw [boxEn_next, ← List.append_assoc, List.length_append (bs := [_])]; rfl)
      refine RunL.val (Val.addN (a := 1) (b := n66) (1 + n66) rfl rfl rfl (i64_inN (by omega))) rfl rfl rfl ?_
      refine RunL.val (Val.sliceTo (i := 1 + n66) rfl rfl sl_47 (by omega)) rfl rfl rfl ?_
      refine RunL.val (Val.pure rfl) rfl rfl rfl ?_
      refine RunL.nil ?_
      refine RunE.next ?_
      refine RunC.seq ?_
      refine RunC.region ?_
      refine RunL.val (Val.fieldAddr rfl fld_46_1) rfl rfl rfl ?_
      refine RunL.val (Val.load_one rfl (.tail _ (.head _)) ty_44 rfl) rfl rfl rfl ?_
      refine RunL.val (Val.pure rfl) rfl rfl rfl ?_
      refine RunL.val (Val.bytesStrN S hSl rfl sls_47 und_5 und_9 (fun w hm => hSt ▸ tit_sl (by omega) (by omega) (by omega) (hm.at (.head _)))) rfl rfl rfl ?_
      refine RunL.new (New.buildSlice (parts := [(0, .tmp 72)]) rfl sl_44 zero_9 rfl rfl rfl rfl) rfl rfl rfl (fun b73 => ?_)
      refine RunL.append (A := [(b73, _), (b64, _), (b8, _), (b36.1, _), (b6, _), (b36.2, _)]) (B := _) (x := yb) (ys := [.string (bs S)]) ap_44 rfl rfl rfl hyb rfl (fun h => by cases h) (fun w hm => src_blk (hm.at (.head _))) (one_of rfl) (by simp only [maxLen]; omega) (by omega) rfl (fun z74 hz74 => ?_)
      obtain ⟨bz74, cz74, rz74, rfl, lz741, lz742, lz743⟩ := hz74.has (by omega)
      refine RunL.val (Val.fieldAddr rfl fld_46_1) rfl rfl rfl ?_
      refine RunL.sto (Sto.store rfl rfl (.there (.there .here)) ty_44 rfl rfl) rfl rfl ?_
      refine RunL.nil ?_
      refine RunE.next ?_
      refine RunC.drawX (X := Eng.Own) 10 (n0 := [(b73, _), (b64, _), (b8, _), (b36.1, _), (b6, _), (b36.2, _), (bz74, _)]) (fun z q => (7, ownV z (tEs L ++ boxEn col 0 (TT ++ [S])).length) :: q) (fun z => []) (fun z => []) (fun z => ownB 50 z ((tEs L ++ boxEn col 0 (TT ++ [S])).map En.cells).flatten ++ (ownB 46 O ((tBx L).map BxA.cells).flatten ++ (tR L ++ []))) (fun z => OwnOk 3 z (tEs L ++ boxEn col 0 (TT ++ [S])).length ((tEs L ++ boxEn col 0 (TT ++ [S])).map En.cells).flatten) fol_ (.cons .here rfl (.cons .here rfl (.cons .here rfl (.cons .here rfl (.cons .here rfl (.cons .here rfl (.cons .here rfl .nil))))))) (Sub.cons (t := 0) rfl (Sub.cons (t := 1) rfl (Sub.cons (t := 5) rfl (Sub.cons (t := 6) rfl (Sub.cons (t := 8) rfl (Sub.cons (t := 39) rfl (Sub.cons (t := 40) rfl (Sub.cons (t := 48) rfl (Sub.cons (t := 49) rfl (Sub.nil _)))))))))) (.cons .here rfl (.cons .here rfl (.cons .here rfl (.cons .here rfl (.cons .here rfl (.cons .here rfl (.cons .here rfl .nil))))))) ?_ ?_
      · refine RunA.val (i := 0) rfl (by kernel_rfl) (by kernel_rfl) (Val.pure rfl) rfl rfl rfl (fun _ _ _ h => h) (.cons .here rfl (.cons .here rfl (.cons .here rfl (.cons .here rfl (.cons .here rfl (.cons .here rfl (.cons .here rfl .nil))))))) rfl ?_
        refine RunA.val (i := 1) rfl (by kernel_rfl) (by kernel_rfl) (Val.fieldAddr rfl fld_46_0) rfl rfl rfl (fun _ _ _ h => h) (.cons .here rfl (.cons .here rfl (.cons .here rfl (.cons .here rfl (.cons .here rfl (.cons .here rfl (.cons .here rfl .nil))))))) rfl ?_
        refine RunA.val (i := 2) rfl (by kernel_rfl) (by kernel_rfl) (Val.load_one rfl (.tail _ (.tail _ (.head _))) ty_3 rfl) rfl rfl rfl (fun _ _ _ h => h) (.cons .here rfl (.cons .here rfl (.cons .here rfl (.cons .here rfl (.cons .here rfl (.cons .here rfl (.cons .here rfl .nil))))))) rfl ?_
        refine RunA.val (i := 3) rfl (by kernel_rfl) (by kernel_rfl) (Val.pure rfl) rfl rfl rfl (fun _ _ _ h => h) (.cons .here rfl (.cons .here rfl (.cons .here rfl (.cons .here rfl (.cons .here rfl (.cons .here rfl (.cons .here rfl .nil))))))) rfl ?_
        refine RunA.val (i := 4) rfl (by kernel_rfl) (by kernel_rfl) (Val.add rfl rfl (IntWalk.i64_in _ ⟨by omega, by omega⟩)) rfl rfl rfl (fun _ _ _ h => h) (.cons .here rfl (.cons .here rfl (.cons .here rfl (.cons .here rfl (.cons .here rfl (.cons .here rfl (.cons .here rfl .nil))))))) rfl ?_
        refine RunA.val (i := 6) rfl (by kernel_rfl) (by kernel_rfl) (Val.pure rfl) rfl rfl rfl (fun _ _ _ h => h) (.cons .here rfl (.cons .here rfl (.cons .here rfl (.cons .here rfl (.cons .here rfl (.cons .here rfl (.cons .here rfl .nil))))))) rfl ?_
        refine RunA.val (i := 7) rfl (by kernel_rfl) (by kernel_rfl) (Val.bytesStrN S hSl rfl sls_47 und_5 und_9 (fun w hm => hSt ▸ tit_sl (by omega) (by omega) (by omega) (hm.at (.tail _ (.head _))))) rfl rfl rfl (fun _ _ _ h => h) (.cons .here rfl (.cons .here rfl (.cons .here rfl (.cons .here rfl (.cons .here rfl (.cons .here rfl (.cons .here rfl .nil))))))) rfl ?_
        refine RunA.one (i := 5) (by kernel_rfl) (by kernel_rfl) ?_
        refine RunI.callP rfl (isCall_func rfl ent_31) rfl rfl rfl (fun w hm => rText_calls (j + 1) (by omega) w) (RunK.toA (.cons .here rfl (.cons .here rfl (.cons .here rfl (.cons .here rfl (.cons .here rfl (.cons .here rfl (.cons .here rfl .nil))))))) (.cons .here rfl (.cons .here rfl (.cons .here rfl (.cons .here rfl (.cons .here rfl (.cons .here rfl (.cons .here rfl .nil))))))) rfl ?_)
        refine RunA.val (i := 8) rfl (by kernel_rfl) (by kernel_rfl) (Val.build (parts := [(0, .tmp 78), (1, .tmp 81), (2, .tmp 83)]) rfl zero_50 places_50 rfl) rfl rfl rfl (fun _ _ _ h => h) (.cons .here rfl (.cons .here rfl (.cons .here rfl (.cons .here rfl (.cons .here rfl (.cons .here rfl (.cons .here rfl .nil))))))) rfl ?_
        refine RunA.one (i := 9) (by kernel_rfl) (by kernel_rfl) ?_
        refine RunI.new rfl (New.buildSlice (parts := [(0, .tmp 84)]) rfl sl_23 zero_50 rfl rfl rfl rfl) rfl rfl rfl (fun b85 => (RunK.toA (.cons .here rfl (.cons .here rfl (.cons .here rfl (.cons .here rfl (.cons .here rfl (.cons .here rfl (.cons .here rfl (.cons .here rfl .nil)))))))) (.cons (.there .here) rfl (.cons (.there .here) rfl (.cons (.there .here) rfl (.cons (.there .here) rfl (.cons (.there .here) rfl (.cons (.there .here) rfl (.cons (.there .here) rfl .nil))))))) rfl ?_))
        refine RunA.toB (by kernel_rfl) ?_
        refine RunB.one (i := 10) (by kernel_rfl) ?_
        refine RunI.append (A := [(b85, _), (b73, _), (b64, _), (b8, _), (b36.1, _), (b6, _), (b36.2, _), (bz74, _)]) (B := _) (x := ye) (ys := (En.cells ⟨col, itoa (j + 1), S⟩)) rfl ap_23 rfl rfl rfl hye rfl (fun h => by cases h) (fun w hm => src_blk (hm.at (.head _))) (one_of (en_one _)) (by simp only [maxLen]; omega) (by omega) rfl (fun z86 hz86 => (RunK.toB ?_))
        refine RunB.one (i := 11) (by kernel_rfl) ?_
        refine RunI.val rfl (Val.pure rfl) rfl rfl rfl (RunK.toB ?_)
        refine RunB.done (by kernel_rfl) ?_
        exact RunE.joinX z86 (by rw [hL86, hE86]; exact hz86) rfl (Sub.consE (t := 7) rfl (by rw [hL86]) (Sub.cons (t := 0) rfl (Sub.cons (t := 1) rfl (Sub.cons (t := 5) rfl (Sub.cons (t := 6) rfl (Sub.cons (t := 8) rfl (Sub.cons (t := 39) rfl (Sub.cons (t := 40) rfl (Sub.cons (t := 48) rfl (Sub.cons (t := 49) rfl (Sub.nil _))))))))))) (.cons (.there .here) rfl (.cons (.there .here) rfl (.cons (.there .here) rfl (.cons (.there .here) rfl (.cons (.there .here) rfl (.cons (.there .here) rfl (.cons (.there .here) rfl (Pick.skip (Pick.same (by rw [hE86]))))))))))
      · intro z zI
        have hze := zI
        refine RunE.block_normal ?_
        refine RunE.next ?_
        refine RunC.region ?_
        refine RunL.val (Val.add rfl rfl (IntWalk.i64_in _ ⟨by omega, by omega⟩)) rfl rfl rfl ?_
        refine RunL.val (Val.pure rfl) rfl rfl rfl ?_
        refine RunL.nil ?_
        exact RunE.roundX (A2 + 1 + 1 + 1 + 1, z, (some (bz74, cz74, rz74)), TT ++ [S]) (by omega) ⟨by omega, hze, (by rw [List.length_append, strs_snoc]; exact hz74), by simp; omega, fun t ht => by rcases List.mem_append.1 ht with ht | ht; exact hTg t ht; (rw [List.mem_singleton.1 ht]; exact hSg)⟩ rfl (Sub.consE (t := 49) rfl rfl (Sub.consE (t := 7) rfl (by rfl) (Sub.cons (t := 0) rfl (Sub.cons (t := 1) rfl (Sub.cons (t := 5) rfl (Sub.cons (t := 6) rfl (Sub.cons (t := 8) rfl (Sub.cons (t := 39) rfl (Sub.cons (t := 40) rfl (Sub.cons (t := 48) rfl (Sub.nil _))))))))))) (.cons (.there (.there .here)) (by rw [List.length_append]; rfl) (.cons (.there (.there .here)) rfl (.cons (.there (.there .here)) rfl (.cons (.there (.there .here)) rfl (.cons (.there (.there .here)) (by rw [strs_snoc]) (Pick.skip (Pick.skip (Pick.refl _))))))))
    · intro c2
      have c2' := c2; clear c2
      try simp only [decide_eq_true_eq, decide_eq_false_iff_not, Bool.not_eq_true', Bool.not_eq_false', Bool.and_eq_true, Bool.or_eq_true, Bool.and_eq_false_iff, Bool.or_eq_false_iff, Int.not_le, Int.not_lt] at c2'
      have hjn : j = 1 + n47 := by omega
      refine RunC.exit ?_
      refine RunE.pass_exit ?_
      refine RunE.pass_exit ?_
      refine RunE.block_here ?_
      refine RunE.next ?_
      refine RunC.region ?_
      obtain ⟨bb, cb, rb, rfl, lb1, lb2, lb3⟩ := hb.has (by omega)
      refine RunL.val (Val.fieldAddr rfl fld_25_0) rfl rfl rfl ?_
      obtain ⟨be, ce, re, rfl, le1, le2, le3⟩ := he.has (by rw [List.length_append, boxEn_len]; omega)
      refine RunL.val (Val.load_one rfl (.tail _ (.tail _ (.head _))) ty_22 rfl) rfl rfl rfl ?_
      refine RunL.val (Val.load_agg rfl (.head _) ty_46 rfl) rfl rfl rfl ?_
      refine RunL.new (New.buildSlice (parts := [(0, .tmp 90)]) rfl sl_22 zero_46 rfl rfl rfl rfl) rfl rfl rfl (fun b91 => ?_)
      refine RunL.append (A := [(b91, _), (b8, _), (b36.1, _), (b6, _), (b36.2, _), (bb, _), (be, _)]) (B := _) (x := O) (ys := (TB.bx ⟨col, TT, bb, cb, rb⟩).cells) ap_22 rfl rfl rfl ho rfl (fun h => by cases h) (fun w hm => src_blk (hm.at (.head _))) (one_of rfl) (by simp only [maxLen]; omega) (by omega) rfl (fun z92 hz92 => ?_)
      obtain ⟨bz92, cz92, rz92, rfl, lz921, lz922, lz923⟩ := hz92.has (by omega)
      refine RunL.val (Val.fieldAddr rfl fld_25_0) rfl rfl rfl ?_
      refine RunL.sto (Sto.store rfl rfl (.there (.there (.there .here))) ty_22 rfl rfl) rfl rfl ?_
      refine RunL.nil ?_
      refine RunE.block_normal ?_
      refine RunE.next ?_
      refine RunC.region ?_
      refine RunL.val (Val.add rfl rfl (IntWalk.i64_in _ ⟨by omega, by omega⟩)) rfl rfl rfl ?_
      refine RunL.val (Val.pure rfl) rfl rfl rfl ?_
      refine RunL.nil ?_
      exact RunE.roundX (A2, some (be, ce, re), some (bz92, cz92, rz92), ⟨col, TT, bb, cb, rb⟩ :: L) (by omega) ⟨by omega, (by rw [tEs_cons]; exact hye), (by rw [tBx_cons, ← flat_snoc]; exact hz92), by simp; omega, fun B hB => by rcases List.mem_cons.1 hB with rfl | hB; exact ⟨(by show 1 ≤ col ∧ col ≤ 3; omega), hTg, (by show 1 ≤ TT.length ∧ TT.length ≤ 4; omega)⟩; exact hLg B hB⟩ rfl (Sub.consE (t := 40) rfl rfl (Sub.consE (t := 7) rfl (by rw [tEs_cons]) (Sub.cons (t := 0) rfl (Sub.cons (t := 1) rfl (Sub.cons (t := 5) rfl (Sub.cons (t := 6) rfl (Sub.cons (t := 39) rfl (Sub.nil _)))))))) (.cons (.there (.there (.there .here))) rfl (.cons (.there (.there .here)) rfl (.cons (.there (.there .here)) rfl (.cons (.there (.there (.there .here))) (by rw [tEs_cons]) (.cons (.there (.there (.there .here))) (by rw [tBx_cons, ← flat_snoc]) (.cons (.there (.there .here)) rfl (Pick.skip (Pick.skip (Pick.refl _)))))))))
  · intro c1
    have c1' := c1; clear c1
    try simp only [decide_eq_true_eq, decide_eq_false_iff_not, Bool.not_eq_true', Bool.not_eq_false', Bool.and_eq_true, Bool.or_eq_true, Bool.and_eq_false_iff, Bool.or_eq_false_iff, Int.not_le, Int.not_lt] at c1'
    have hkn : k = 1 + n38 := by omega
    obtain ⟨ES, hES⟩ : ∃ ES, tEs L = ES := ⟨_, rfl⟩
    rw [hES] at he hEl ⊢
    have hne1 : 1 ≤ ES.length := by omega
    have hne12 : ES.length ≤ 12 := by omega
    obtain ⟨NN, hNN⟩ : ∃ NN : Nat, min ((c % 9 : Nat) : Int) (ES.length : Int) = (NN : Int) := nat_of (by omega)
    have hN8 : NN ≤ 8 := by omega
    have hNe : NN ≤ ES.length := by omega
    have hEok : ∀ e ∈ ES, EnOk e := hES ▸ tEs_ok hLg (by omega)
    refine RunC.exit ?_
    refine RunE.pass_exit ?_
    refine RunE.pass_exit ?_
    refine RunE.block_here ?_
    refine RunE.next ?_
    refine RunC.seq ?_
    refine RunC.region ?_
    refine RunL.val (Val.pure rfl) rfl rfl rfl ?_
    refine RunL.nil ?_
    refine RunE.next ?_
    refine RunC.seq ?_
    refine RunC.region ?_
    refine RunL.val (Val.pure rfl) rfl rfl rfl ?_
    refine RunL.nil ?_
    refine RunE.next ?_
    refine RunC.seq ?_
    refine RunC.seq ?_
    refine RunC.region ?_
    obtain ⟨be, ce, re, rfl, le1, le2, le3⟩ := he.has (by omega)
    refine RunL.val (Val.pure rfl) rfl rfl rfl ?_
    obtain ⟨bo, co, ro, rfl, lo1, lo2, lo3⟩ := ho.has (by omega)
    refine RunL.val (Val.convInt rfl und_5 und_3 (IntWalk.i64_in _ ⟨by omega, by omega⟩)) rfl rfl rfl ?_
    refine RunL.val (Val.remN (a := c) (b := 9) rfl rfl (by decide)) rfl rfl rfl ?_
    refine RunL.val (Val.pure rfl) rfl rfl rfl ?_
    refine RunL.val (Val.len_sl rfl sl_23) rfl rfl rfl ?_
    refine RunL.val (Val.min rfl rfl) rfl rfl rfl ?_
    try rw [hNN]
    refine RunL.val (Val.pure rfl) rfl rfl rfl ?_
    refine RunL.nil ?_
    refine RunE.next ?_
    refine RunC.block ?_
    refine RunC.loopX (X := Nat × Eng.Own × Eng.Own × List Nat × List Tn × Nat) (n0 := [(b36.2, _), (be, _), (bo, _)]) (NN) (fun k x q => (101, .int .i64 (k : Int)) :: (11, ownV x.2.1 k) :: (12, .int .i64 ((x.2.2.2.2.2 : Nat) : Int)) :: q) (fun _ _ => _) (fun k x => [(b6, .cells [.slice (some ⟨bo, 0, none⟩) L.length co, ownV x.2.2.1 k].toArray 25 (0, 0)), (b36.1, .cells [.int .i64 (x.1 : Int)].toArray 3 (0, 0))]) (fun k x => ownB 3 x.2.1 (intsW (natI x.2.2.2.1)).flatten ++ (ownB 50 x.2.2.1 (x.2.2.2.2.1.map Tn.cells).flatten ++ (tR L ++ []))) (fun k x => x.1 ≤ A + k * 50 ∧ OwnOk 1 x.2.1 k (intsW (natI x.2.2.2.1)).flatten ∧ OwnOk 3 x.2.2.1 k (x.2.2.2.2.1.map Tn.cells).flatten ∧ Chosen ES k x.2.2.2.1 x.2.2.2.2.1 x.2.2.2.2.2) (A, none, none, [], [], 0) ⟨by simp, OwnOk.start, OwnOk.start, Chosen.nil _⟩ rfl (Sub.consE (t := 101) rfl rfl (Sub.consE (t := 11) rfl rfl (Sub.consE (t := 12) rfl rfl (Sub.cons (t := 0) rfl (Sub.cons (t := 1) rfl (Sub.cons (t := 5) rfl (Sub.cons (t := 6) rfl (Sub.cons (t := 7) rfl (Sub.cons (t := 100) rfl (Sub.nil _)))))))))) (.cons .here rfl (.cons .here rfl (.cons .here rfl (.cons .here rfl (.cons .here rfl (Pick.same rfl)))))) ?_
    intro k x kN kI
    obtain ⟨A3, TR, CD, tl, cl, u⟩ := x
    obtain ⟨hA3, htr, hcd, hch⟩ := kI
    dsimp only at hA3 htr hcd hch ⊢
    have hult := hch.ult
    refine RunC.seq ?_
    refine RunC.region ?_
    refine RunL.val (Val.pure rfl) rfl rfl rfl ?_
    refine RunL.nil ?_
    refine RunE.next ?_
    refine RunC.seq ?_
    refine RunC.cond rfl ?_ ?_
    · intro c3
      have c3' := c3; clear c3
      try simp only [decide_eq_true_eq, decide_eq_false_iff_not, Bool.not_eq_true', Bool.not_eq_false', Bool.and_eq_true, Bool.or_eq_true, Bool.and_eq_false_iff, Bool.or_eq_false_iff, Int.not_le, Int.not_lt] at c3'
      have hk : k < NN := by omega
      have hkE : k < ES.length := by omega
      refine RunC.skip ?_
      refine RunE.next ?_
      refine RunC.seq ?_
      refine RunC.block ?_
      refine RunC.seq ?_
      refine RunC.region ?_
      refine RunL.val (Val.pure rfl) rfl rfl rfl ?_
      refine RunL.val (Val.pure rfl) rfl rfl rfl ?_
      refine RunL.val (Val.len_sl rfl sl_23) rfl rfl rfl ?_
      refine RunL.callX (isCall_value rfl rfl ent_59) rfl rfl rfl (.there .here) (fun w hm => hdraw_calls l hl (ES.length : Int) (by omega) A3 (by omega) q b o cap _ _ w (hm.at (.tail _ (.head _))) (hm.at (.tail _ (.tail _ (.head _)))) (ne_of_T hm (.tail _ (.tail _ (.head _))) (.tail _ (.head _)) (by decide)) (hS.ne (by decide) hm (.tail _ (.head _)) hlne) (hS.mono (by decide) hm (by simp))) (fun x106 hx106 => ?_)
      obtain ⟨n106, rfl⟩ := nat_of hx106.1
      have hn106 : n106 < ES.length := by omega
      refine RunL.val (Val.pure rfl) rfl rfl rfl ?_
      refine RunL.nil ?_
      refine RunE.next ?_
      refine RunC.seq ?_
      refine RunC.block ?_
      refine RunC.loopX (X := Nat) (n0 := [(b6, _), (b36.1, _), (b36.2, _), (be, _), (bo, _)]) (ES.length) (fun j p q => (13, .int .i64 (p : Int)) :: q) (fun _ _ => _) (fun j p => []) (fun j p => ownB 3 TR (intsW (natI tl)).flatten ++ (ownB 50 CD (cl.map Tn.cells).flatten ++ (tR L ++ []))) (fun j p => p = (n106 + j) % ES.length ∧ ∀ t, t < j → u.testBit ((n106 + t) % ES.length) = true) n106 ⟨(Nat.mod_eq_of_lt hn106).symm, fun t ht => by omega⟩ rfl (Sub.consE (t := 13) rfl rfl (Sub.cons (t := 0) rfl (Sub.cons (t := 1) rfl (Sub.cons (t := 5) rfl (Sub.cons (t := 6) rfl (Sub.cons (t := 7) rfl (Sub.cons (t := 11) rfl (Sub.cons (t := 12) rfl (Sub.cons (t := 100) rfl (Sub.cons (t := 101) rfl (Sub.nil _))))))))))) (.cons .here rfl (.cons .here rfl (.cons .here rfl (.cons .here rfl (.cons .here rfl (Pick.same rfl)))))) ?_
      intro j p jN jI
      obtain ⟨hpj, hpu⟩ := jI
      have hpE : p < ES.length := by (rw [hpj]; exact Nat.mod_lt _ (by omega))
      have hjl := free_lt (by omega) hn106 hch.bit (by rw [hch.tlen]; exact hkE) hpu
      have hsk := Nat.shiftRight_le u p
      have hand := Nat.and_le_right (n := u >>> p) (m := 1)
      refine RunC.seq ?_
      refine RunC.seq ?_
      refine RunC.region ?_
      refine RunL.val (Val.pure rfl) rfl rfl rfl ?_
      refine RunL.val (Val.pure rfl) rfl rfl rfl ?_
      refine RunL.val (Val.shrN (a := u) (b := p) rfl rfl (by show p ≤ 64; omega)) rfl rfl rfl ?_
      refine RunL.val (Val.and (a := u >>> p) (b := 1) rfl rfl (by show _ < 18446744073709551616; omega) (by decide) (i64_inN (by omega))) rfl rfl rfl ?_
      refine RunL.val (Val.pure rfl) rfl rfl rfl ?_
      refine RunL.nil ?_
      refine RunE.next ?_
      refine RunC.cond rfl ?_ ?_
      · intro c4
        have c4' := c4; clear c4
        try simp only [decide_eq_true_eq, decide_eq_false_iff_not, Bool.not_eq_true', Bool.not_eq_false', Bool.and_eq_true, Bool.or_eq_true, Bool.and_eq_false_iff, Bool.or_eq_false_iff, Int.not_le, Int.not_lt] at c4'
        have hub := bit_yes c4'
        refine RunC.skip ?_
        refine RunE.next ?_
        refine RunC.block ?_
        refine RunC.region ?_
        refine RunL.val (Val.pure rfl) rfl rfl rfl ?_
        refine RunL.val (Val.addN (a := p) (b := 1) (p + 1) rfl rfl rfl (i64_inN (by omega))) rfl rfl rfl ?_
        refine RunL.val (Val.pure rfl) rfl rfl rfl ?_
        refine RunL.val (Val.len_sl rfl sl_23) rfl rfl rfl ?_
        refine RunL.val (Val.remN (a := p + 1) (b := ES.length) rfl rfl (by omega)) rfl rfl rfl ?_
        refine RunL.val (Val.pure rfl) rfl rfl rfl ?_
        refine RunL.nil ?_
        refine RunE.block_normal ?_
        exact RunE.roundX ((p + 1) % ES.length) (by omega) ⟨(by rw [hpj, mod_next]), fun t ht => by rcases Nat.lt_or_ge t j with h1 | h1; exact hpu t h1; (have e : t = j := (by omega); subst e; rw [← hpj]; exact hub)⟩ rfl (Sub.consE (t := 13) rfl rfl (Sub.cons (t := 0) rfl (Sub.cons (t := 1) rfl (Sub.cons (t := 5) rfl (Sub.cons (t := 6) rfl (Sub.cons (t := 7) rfl (Sub.cons (t := 11) rfl (Sub.cons (t := 12) rfl (Sub.cons (t := 100) rfl (Sub.cons (t := 101) rfl (Sub.nil _))))))))))) (.cons .here rfl (.cons .here rfl (.cons .here rfl (.cons .here rfl (.cons .here rfl (Pick.refl _))))))
      · intro c4
        have c4' := c4; clear c4
        try simp only [decide_eq_true_eq, decide_eq_false_iff_not, Bool.not_eq_true', Bool.not_eq_false', Bool.and_eq_true, Bool.or_eq_true, Bool.and_eq_false_iff, Bool.or_eq_false_iff, Int.not_le, Int.not_lt] at c4'
        have hub : u.testBit p = false := bit_no c4'
        obtain ⟨ee, hee⟩ : ∃ ee, ES[p] = ee := ⟨_, rfl⟩
        have hen := hEok ee (hee ▸ List.getElem_mem hpE)
        have h2p : 2 ^ p < 2 ^ 12 := Nat.pow_lt_pow_right (by decide) (by omega)
        have horp := Nat.or_lt_two_pow hult h2p
        refine RunC.exit ?_
        refine RunE.pass_exit ?_
        refine RunE.pass_exit ?_
        refine RunE.block_here ?_
        refine RunE.next ?_
        refine RunC.seq ?_
        refine RunC.region ?_
        refine RunL.val (Val.pure rfl) rfl rfl rfl ?_
        refine RunL.val (Val.pure rfl) rfl rfl rfl ?_
        refine RunL.val (Val.shl1 (b := p) rfl rfl (by show p ≤ 64; omega) (i64_inN (by omega))) rfl rfl rfl ?_
        refine RunL.val (Val.or (a := u) (b := 2 ^ p) rfl rfl (by show _ < 18446744073709551616; omega) (by show _ < 18446744073709551616; omega) (i64_inN (by omega))) rfl rfl rfl ?_
        refine RunL.val (Val.pure rfl) rfl rfl rfl ?_
        refine RunL.nil ?_
        refine RunE.next ?_
        refine RunC.seq ?_
        refine RunC.region ?_
        refine RunL.val (Val.pure rfl) rfl rfl rfl ?_
        refine RunL.val (Val.pure rfl) rfl rfl rfl ?_
        refine RunL.val (Val.indexAddr_slp rfl rfl sl_23 (by omega) (by omega) rfl) rfl rfl rfl ?_
        refine RunL.val (Val.load_gen rfl (fun w hm => (Sl.rowsR (xs := ES.map En.cells) (t := re) (hm.at (.tail _ (.tail _ (.tail _ (.head _))))) (fun x hx => by obtain ⟨t, _, rfl⟩ := List.mem_map.1 hx; rfl)).loadX (by decide) (Mem.refl w) (by simp) ty_50 hpE hee)) rfl rfl rfl ?_
        refine RunL.new (New.alloc zero_50) rfl rfl rfl (fun b14 => ?_)
        refine RunL.sto (Sto.store rfl rfl .here ty_50 rfl rfl) rfl rfl ?_
        refine RunL.nil ?_
        refine RunE.next ?_
        refine RunC.seq ?_
        refine RunC.drawX (X := Nat × Str × Str × Nat) 12 (n0 := [(b14, _), (b6, _), (b36.2, _), (be, _), (bo, _)]) (fun y q => (15, .pointer (some ⟨y.2.2.2, 0, none⟩)) :: q) (fun y => []) (fun y => [(b36.1, .cells [.int .i64 (y.1 : Int)].toArray 3 (0, 0)), (y.2.2.2, .cells [.int .i64 ee.colour, .string (bs y.2.1), .string (bs y.2.2.1)].toArray 50 (0, 0))]) (fun y => ownB 3 TR (intsW (natI tl)).flatten ++ (ownB 50 CD (cl.map Tn.cells).flatten ++ (tR L ++ []))) (fun y => y.1 ≤ A3 + 41 ∧ (pieceX y.2.1 = true ∧ suitsX y.2.1 ee.number = true) ∧ pieceX y.2.2.1 = true ∧ suitsX y.2.2.1 ee.title = true) fol_ (.cons .here rfl (.cons .here rfl (.cons (.there .here) rfl (.cons (.there .here) rfl (.cons (.there .here) rfl .nil))))) (Sub.cons (t := 0) rfl (Sub.cons (t := 1) rfl (Sub.cons (t := 5) rfl (Sub.cons (t := 6) rfl (Sub.cons (t := 7) rfl (Sub.cons (t := 11) rfl (Sub.cons (t := 12) rfl (Sub.cons (t := 13) rfl (Sub.cons (t := 100) rfl (Sub.cons (t := 101) rfl (Sub.nil _))))))))))) (.cons .here rfl (.cons .here rfl (.cons (.there .here) rfl (.cons (.there .here) rfl (.cons (.there .here) rfl .nil))))) ?_ ?_
        · refine RunA.val (i := 0) rfl (by kernel_rfl) (by kernel_rfl) (Val.fieldAddr rfl fld_50_0) rfl rfl rfl (fun _ _ _ h => h) (.cons .here rfl (.cons .here rfl (.cons (.there .here) rfl (.cons (.there .here) rfl (.cons (.there .here) rfl .nil))))) rfl ?_
          refine RunA.val (i := 1) rfl (by kernel_rfl) (by kernel_rfl) (Val.load_one rfl (.head _) ty_3 rfl) rfl rfl rfl (fun _ _ _ h => h) (.cons .here rfl (.cons .here rfl (.cons (.there .here) rfl (.cons (.there .here) rfl (.cons (.there .here) rfl .nil))))) rfl ?_
          refine RunA.val (i := 2) rfl (by kernel_rfl) (by kernel_rfl) (Val.fieldAddr rfl fld_50_1) rfl rfl rfl (fun _ _ _ h => h) (.cons .here rfl (.cons .here rfl (.cons (.there .here) rfl (.cons (.there .here) rfl (.cons (.there .here) rfl .nil))))) rfl ?_
          refine RunA.val (i := 3) rfl (by kernel_rfl) (by kernel_rfl) (Val.load_one rfl (.head _) ty_9 rfl) rfl rfl rfl (fun _ _ _ h => h) (.cons .here rfl (.cons .here rfl (.cons (.there .here) rfl (.cons (.there .here) rfl (.cons (.there .here) rfl .nil))))) rfl ?_
          refine RunA.val (i := 4) rfl (by kernel_rfl) (by kernel_rfl) (Val.pure rfl) rfl rfl rfl (fun _ _ _ h => h) (.cons .here rfl (.cons .here rfl (.cons (.there .here) rfl (.cons (.there .here) rfl (.cons (.there .here) rfl .nil))))) rfl ?_
          refine RunA.val (i := 6) rfl (by kernel_rfl) (by kernel_rfl) (Val.fieldAddr rfl fld_50_2) rfl rfl rfl (fun _ _ _ h => h) (.cons .here rfl (.cons .here rfl (.cons (.there .here) rfl (.cons (.there .here) rfl (.cons (.there .here) rfl .nil))))) rfl ?_
          refine RunA.val (i := 7) rfl (by kernel_rfl) (by kernel_rfl) (Val.load_one rfl (.head _) ty_9 rfl) rfl rfl rfl (fun _ _ _ h => h) (.cons .here rfl (.cons .here rfl (.cons (.there .here) rfl (.cons (.there .here) rfl (.cons (.there .here) rfl .nil))))) rfl ?_
          refine RunA.val (i := 8) rfl (by kernel_rfl) (by kernel_rfl) (Val.pure rfl) rfl rfl rfl (fun _ _ _ h => h) (.cons .here rfl (.cons .here rfl (.cons (.there .here) rfl (.cons (.there .here) rfl (.cons (.there .here) rfl .nil))))) rfl ?_
          refine RunA.all (rs := [5, 11]) (by kernel_rfl) (by simp) (by kernel_rfl) (fun m hm => ?_)
          simp only [List.mem_cons, List.not_mem_nil, or_false] at hm
          rcases hm with rfl | rfl
          · refine RunI.callZ rfl (isCall_func rfl ent_32) rfl rfl rfl (fun _ => (.there (.there .here))) (fun w hm => tear_calls ee.number hen.num.1 hen.num.2.1 (by have := hen.num.2.2; omega) l hl (A3 + 1) (by omega) q b o cap _ _ w (hm.at (.tail _ (.tail _ (.head _)))) (hm.at (.tail _ (.tail _ (.tail _ (.head _))))) (ne_of_T hm (.tail _ (.tail _ (.tail _ (.head _)))) (.tail _ (.tail _ (.head _))) (by decide)) (hS.ne (by decide) hm (.tail _ (.tail _ (.head _))) hlne) (hS.mono (by decide) hm (by simp))) (fun x130 hx130 => (RunK.toA (.cons .here rfl (.cons .here rfl (.cons (.there .here) rfl (.cons (.there .here) rfl (.cons (.there .here) rfl .nil))))) (.cons .here rfl (.cons .here rfl (.cons .here rfl (.cons .here rfl (.cons .here rfl .nil))))) rfl ?_))
            refine RunA.all (rs := [9, 11]) (by kernel_rfl) (by simp) (by kernel_rfl) (fun m hm => ?_)
            simp only [List.mem_cons, List.not_mem_nil, or_false] at hm
            rcases hm with rfl | rfl
            · refine RunI.callZ rfl (isCall_func rfl ent_32) rfl rfl rfl (fun _ => (.there (.there .here))) (fun w hm => tear_calls ee.title (letters_plain hen.let_) (letters_good hen.let_) hen.len.2 l hl x130.1 (by have := hx130.1; omega) q b o cap _ _ w (hm.at (.tail _ (.tail _ (.head _)))) (hm.at (.tail _ (.tail _ (.tail _ (.head _))))) (ne_of_T hm (.tail _ (.tail _ (.tail _ (.head _)))) (.tail _ (.tail _ (.head _))) (by decide)) (hS.ne (by decide) hm (.tail _ (.tail _ (.head _))) hlne) (hS.mono (by decide) hm (by simp))) (fun x134 hx134 => (RunK.toA (.cons .here rfl (.cons .here rfl (.cons (.there .here) rfl (.cons (.there .here) rfl (.cons (.there .here) rfl .nil))))) (.cons .here rfl (.cons .here rfl (.cons .here rfl (.cons .here rfl (.cons .here rfl .nil))))) rfl ?_))
              refine RunA.val (i := 10) rfl (by kernel_rfl) (by kernel_rfl) (Val.build (parts := [(0, .tmp 126), (1, .tmp 130), (2, .tmp 134)]) rfl zero_50 places_50 rfl) rfl rfl rfl (fun _ _ _ h => h) (.cons .here rfl (.cons .here rfl (.cons (.there .here) rfl (.cons (.there .here) rfl (.cons (.there .here) rfl .nil))))) rfl ?_
              refine RunA.one (i := 11) (by kernel_rfl) (by kernel_rfl) ?_
              refine RunI.new rfl (New.alloc zero_50) rfl rfl rfl (fun b15 => (RunK.toA (.cons .here rfl (.cons .here rfl (.cons .here rfl (.cons (.there .here) rfl (.cons (.there .here) rfl (.cons (.there .here) rfl .nil)))))) (.cons (.there .here) rfl (.cons (.there .here) rfl (.cons (.there .here) rfl (.cons (.there .here) rfl (.cons (.there .here) rfl .nil))))) rfl ?_))
              refine RunA.toB (by kernel_rfl) ?_
              refine RunB.one (i := 12) (by kernel_rfl) ?_
              refine RunI.sto rfl (Sto.store rfl rfl .here ty_50 rfl rfl) rfl rfl (RunK.toB ?_)
              refine RunB.done (by kernel_rfl) ?_
              exact RunE.joinX (x134.1, x130.2, x134.2, b15) ⟨(by have := hx130.1; have := hx134.1; simp only; omega), hx130.2, hx134.2⟩ rfl (Sub.consE (t := 15) rfl rfl (Sub.cons (t := 0) rfl (Sub.cons (t := 1) rfl (Sub.cons (t := 5) rfl (Sub.cons (t := 6) rfl (Sub.cons (t := 7) rfl (Sub.cons (t := 11) rfl (Sub.cons (t := 12) rfl (Sub.cons (t := 13) rfl (Sub.cons (t := 100) rfl (Sub.cons (t := 101) rfl (Sub.nil _)))))))))))) (.cons (.there (.there (.there .here))) rfl (.cons .here rfl (.cons .here rfl (.cons .here rfl (.cons .here rfl (.cons .here rfl (.cons .here rfl (Pick.same rfl))))))))
            · refine RunI.new rfl (New.alloc zero_50) rfl rfl rfl (fun b15 => (RunK.toA (.cons .here rfl (.cons .here rfl (.cons .here rfl (.cons (.there .here) rfl (.cons (.there .here) rfl (.cons (.there .here) rfl .nil)))))) (.cons (.there .here) rfl (.cons (.there .here) rfl (.cons (.there .here) rfl (.cons (.there .here) rfl (.cons (.there .here) rfl .nil))))) rfl ?_))
              refine RunA.one (i := 9) (by kernel_rfl) (by kernel_rfl) ?_
              refine RunI.callZ rfl (isCall_func rfl ent_32) rfl rfl rfl (fun _ => (.there (.there (.there .here)))) (fun w hm => tear_calls ee.title (letters_plain hen.let_) (letters_good hen.let_) hen.len.2 l hl x130.1 (by have := hx130.1; omega) q b o cap _ _ w (hm.at (.tail _ (.tail _ (.tail _ (.head _))))) (hm.at (.tail _ (.tail _ (.tail _ (.tail _ (.head _)))))) (ne_of_T hm (.tail _ (.tail _ (.tail _ (.tail _ (.head _))))) (.tail _ (.tail _ (.tail _ (.head _)))) (by decide)) (hS.ne (by decide) hm (.tail _ (.tail _ (.tail _ (.head _)))) hlne) (hS.mono (by decide) hm (by simp))) (fun x134 hx134 => (RunK.toA (.cons .here rfl (.cons .here rfl (.cons .here rfl (.cons (.there .here) rfl (.cons (.there .here) rfl (.cons (.there .here) rfl .nil)))))) (.cons .here rfl (.cons .here rfl (.cons .here rfl (.cons .here rfl (.cons .here rfl (.cons .here rfl .nil)))))) rfl ?_))
              refine RunA.val (i := 10) rfl (by kernel_rfl) (by kernel_rfl) (Val.build (parts := [(0, .tmp 126), (1, .tmp 130), (2, .tmp 134)]) rfl zero_50 places_50 rfl) rfl rfl rfl (fun _ _ _ h => h) (.cons .here rfl (.cons .here rfl (.cons .here rfl (.cons (.there .here) rfl (.cons (.there .here) rfl (.cons (.there .here) rfl .nil)))))) rfl ?_
              refine RunA.toB (by kernel_rfl) ?_
              refine RunB.one (i := 12) (by kernel_rfl) ?_
              refine RunI.sto rfl (Sto.store rfl rfl .here ty_50 rfl rfl) rfl rfl (RunK.toB ?_)
              refine RunB.done (by kernel_rfl) ?_
              exact RunE.joinX (x134.1, x130.2, x134.2, b15) ⟨(by have := hx130.1; have := hx134.1; simp only; omega), hx130.2, hx134.2⟩ rfl (Sub.consE (t := 15) rfl rfl (Sub.cons (t := 0) rfl (Sub.cons (t := 1) rfl (Sub.cons (t := 5) rfl (Sub.cons (t := 6) rfl (Sub.cons (t := 7) rfl (Sub.cons (t := 11) rfl (Sub.cons (t := 12) rfl (Sub.cons (t := 13) rfl (Sub.cons (t := 100) rfl (Sub.cons (t := 101) rfl (Sub.nil _)))))))))))) (.cons (.there (.there (.there .here))) rfl (.cons .here rfl (.cons .here rfl (.cons .here rfl (.cons .here rfl (.cons .here rfl (.cons .here rfl (Pick.same rfl))))))))
          · refine RunI.new rfl (New.alloc zero_50) rfl rfl rfl (fun b15 => (RunK.toA (.cons .here rfl (.cons .here rfl (.cons .here rfl (.cons (.there .here) rfl (.cons (.there .here) rfl (.cons (.there .here) rfl .nil)))))) (.cons (.there .here) rfl (.cons (.there .here) rfl (.cons (.there .here) rfl (.cons (.there .here) rfl (.cons (.there .here) rfl .nil))))) rfl ?_))
            refine RunA.one (i := 5) (by kernel_rfl) (by kernel_rfl) ?_
            refine RunI.callZ rfl (isCall_func rfl ent_32) rfl rfl rfl (fun _ => (.there (.there (.there .here)))) (fun w hm => tear_calls ee.number hen.num.1 hen.num.2.1 (by have := hen.num.2.2; omega) l hl (A3 + 1) (by omega) q b o cap _ _ w (hm.at (.tail _ (.tail _ (.tail _ (.head _))))) (hm.at (.tail _ (.tail _ (.tail _ (.tail _ (.head _)))))) (ne_of_T hm (.tail _ (.tail _ (.tail _ (.tail _ (.head _))))) (.tail _ (.tail _ (.tail _ (.head _)))) (by decide)) (hS.ne (by decide) hm (.tail _ (.tail _ (.tail _ (.head _)))) hlne) (hS.mono (by decide) hm (by simp))) (fun x130 hx130 => (RunK.toA (.cons .here rfl (.cons .here rfl (.cons .here rfl (.cons (.there .here) rfl (.cons (.there .here) rfl (.cons (.there .here) rfl .nil)))))) (.cons .here rfl (.cons .here rfl (.cons .here rfl (.cons .here rfl (.cons .here rfl (.cons .here rfl .nil)))))) rfl ?_))
            refine RunA.one (i := 9) (by kernel_rfl) (by kernel_rfl) ?_
            refine RunI.callZ rfl (isCall_func rfl ent_32) rfl rfl rfl (fun _ => (.there (.there (.there .here)))) (fun w hm => tear_calls ee.title (letters_plain hen.let_) (letters_good hen.let_) hen.len.2 l hl x130.1 (by have := hx130.1; omega) q b o cap _ _ w (hm.at (.tail _ (.tail _ (.tail _ (.head _))))) (hm.at (.tail _ (.tail _ (.tail _ (.tail _ (.head _)))))) (ne_of_T hm (.tail _ (.tail _ (.tail _ (.tail _ (.head _))))) (.tail _ (.tail _ (.tail _ (.head _)))) (by decide)) (hS.ne (by decide) hm (.tail _ (.tail _ (.tail _ (.head _)))) hlne) (hS.mono (by decide) hm (by simp))) (fun x134 hx134 => (RunK.toA (.cons .here rfl (.cons .here rfl (.cons .here rfl (.cons (.there .here) rfl (.cons (.there .here) rfl (.cons (.there .here) rfl .nil)))))) (.cons .here rfl (.cons .here rfl (.cons .here rfl (.cons .here rfl (.cons .here rfl (.cons .here rfl .nil)))))) rfl ?_))
            refine RunA.val (i := 10) rfl (by kernel_rfl) (by kernel_rfl) (Val.build (parts := [(0, .tmp 126), (1, .tmp 130), (2, .tmp 134)]) rfl zero_50 places_50 rfl) rfl rfl rfl (fun _ _ _ h => h) (.cons .here rfl (.cons .here rfl (.cons .here rfl (.cons (.there .here) rfl (.cons (.there .here) rfl (.cons (.there .here) rfl .nil)))))) rfl ?_
            refine RunA.toB (by kernel_rfl) ?_
            refine RunB.one (i := 12) (by kernel_rfl) ?_
            refine RunI.sto rfl (Sto.store rfl rfl .here ty_50 rfl rfl) rfl rfl (RunK.toB ?_)
            refine RunB.done (by kernel_rfl) ?_
            exact RunE.joinX (x134.1, x130.2, x134.2, b15) ⟨(by have := hx130.1; have := hx134.1; simp only; omega), hx130.2, hx134.2⟩ rfl (Sub.consE (t := 15) rfl rfl (Sub.cons (t := 0) rfl (Sub.cons (t := 1) rfl (Sub.cons (t := 5) rfl (Sub.cons (t := 6) rfl (Sub.cons (t := 7) rfl (Sub.cons (t := 11) rfl (Sub.cons (t := 12) rfl (Sub.cons (t := 13) rfl (Sub.cons (t := 100) rfl (Sub.cons (t := 101) rfl (Sub.nil _)))))))))))) (.cons (.there (.there (.there .here))) rfl (.cons .here rfl (.cons .here rfl (.cons .here rfl (.cons .here rfl (.cons .here rfl (.cons .here rfl (Pick.same rfl))))))))
        · intro y yI
          obtain ⟨A4, pn, pt, b15⟩ := y
          obtain ⟨hA4, ⟨hp1, hp2⟩, hp3, hp4⟩ := yI
          dsimp only at hA4 hp1 hp2 hp3 hp4 ⊢
          refine RunE.next ?_
          refine RunC.seqJ (X := Int) (n0 := [(b14, _), (b6, _), (b36.2, _), (be, _), (bo, _)]) (fun cc q => q) (fun cc => []) (fun cc => [(b36.1, .cells [.int .i64 ((A4 + 1 : Nat) : Int)].toArray 3 (0, 0)), (b15, .cells [.int .i64 cc, .string (bs pn), .string (bs pt)].toArray 50 (0, 0))]) (fun cc => ownB 3 TR (intsW (natI tl)).flatten ++ (ownB 50 CD (cl.map Tn.cells).flatten ++ (tR L ++ []))) (fun cc => cc = 0 ∨ cc = ee.colour) (Sub.cons (t := 0) rfl (Sub.cons (t := 1) rfl (Sub.cons (t := 5) rfl (Sub.cons (t := 6) rfl (Sub.cons (t := 7) rfl (Sub.cons (t := 11) rfl (Sub.cons (t := 12) rfl (Sub.cons (t := 13) rfl (Sub.cons (t := 15) rfl (Sub.cons (t := 100) rfl (Sub.cons (t := 101) rfl (Sub.nil _)))))))))))) (.cons (.there (.there .here)) rfl (.cons (.there (.there .here)) rfl (.cons (.there (.there .here)) rfl (.cons (.there (.there .here)) rfl (.cons (.there (.there .here)) rfl .nil))))) ?_ ?_
          · refine RunC.seq ?_
            refine RunC.region ?_
            refine RunL.val (Val.pure rfl) rfl rfl rfl ?_
            refine RunL.callX (isCall_value rfl rfl ent_59) rfl rfl rfl .here (fun w hm => hdraw_calls l hl 2 (by omega) A4 (by omega) q b o cap _ _ w (hm.at (.head _)) (hm.at (.tail _ (.tail _ (.tail _ (.tail _ (.head _)))))) (ne_of_T hm (.tail _ (.tail _ (.tail _ (.tail _ (.head _))))) (.head _) (by decide)) (hS.ne (by decide) hm (.head _) hlne) (hS.mono (by decide) hm (by simp))) (fun x137 hx137 => ?_)
            refine RunL.val (Val.pure rfl) rfl rfl rfl ?_
            refine RunL.nil ?_
            refine RunE.next ?_
            refine RunC.cond rfl ?_ ?_
            · intro c5
              have c5' := c5; clear c5
              try simp only [decide_eq_true_eq, decide_eq_false_iff_not, Bool.not_eq_true', Bool.not_eq_false', Bool.and_eq_true, Bool.or_eq_true, Bool.and_eq_false_iff, Bool.or_eq_false_iff, Int.not_le, Int.not_lt] at c5'
              refine RunC.region ?_
              refine RunL.val (Val.fieldAddr rfl fld_50_0) rfl rfl rfl ?_
              refine RunL.sto (Sto.store rfl rfl (.there .here) ty_3 rfl rfl) rfl rfl ?_
              refine RunL.nil ?_
              exact RunE.meet 0 (.inl rfl) rfl (Sub.cons (t := 0) rfl (Sub.cons (t := 1) rfl (Sub.cons (t := 5) rfl (Sub.cons (t := 6) rfl (Sub.cons (t := 7) rfl (Sub.cons (t := 11) rfl (Sub.cons (t := 12) rfl (Sub.cons (t := 13) rfl (Sub.cons (t := 15) rfl (Sub.cons (t := 100) rfl (Sub.cons (t := 101) rfl (Sub.nil _)))))))))))) (.cons .here rfl (.cons .here rfl (.cons .here rfl (.cons .here rfl (.cons .here rfl (.cons .here rfl (.cons .here rfl (Pick.same rfl))))))))
            · intro c5
              have c5' := c5; clear c5
              try simp only [decide_eq_true_eq, decide_eq_false_iff_not, Bool.not_eq_true', Bool.not_eq_false', Bool.and_eq_true, Bool.or_eq_true, Bool.and_eq_false_iff, Bool.or_eq_false_iff, Int.not_le, Int.not_lt] at c5'
              refine RunC.skip ?_
              exact RunE.meet ee.colour (.inr rfl) rfl (Sub.cons (t := 0) rfl (Sub.cons (t := 1) rfl (Sub.cons (t := 5) rfl (Sub.cons (t := 6) rfl (Sub.cons (t := 7) rfl (Sub.cons (t := 11) rfl (Sub.cons (t := 12) rfl (Sub.cons (t := 13) rfl (Sub.cons (t := 15) rfl (Sub.cons (t := 100) rfl (Sub.cons (t := 101) rfl (Sub.nil _)))))))))))) (.cons .here rfl (.cons .here rfl (.cons .here rfl (.cons .here rfl (.cons .here rfl (.cons .here rfl (.cons .here rfl (Pick.same rfl))))))))
          · intro cc ccI
            refine RunC.seq ?_
            refine RunC.region ?_
            refine RunL.val (Val.pure rfl) rfl rfl rfl ?_
            refine RunL.val (Val.pure rfl) rfl rfl rfl ?_
            refine RunL.new (New.buildSlice (parts := [(0, .tmp 141)]) rfl sl_34 zero_3 rfl rfl rfl rfl) rfl rfl rfl (fun b142 => ?_)
            refine RunL.append (A := [(b142, _), (b36.1, _), (b15, _), (b14, _), (b6, _), (b36.2, _), (be, _), (bo, _)]) (B := _) (x := TR) (ys := [.int .i64 (p : Int)]) ap_34 rfl rfl rfl htr rfl (fun h => by cases h) (fun w hm => src_blk (hm.at (.head _))) (one_of rfl) (by simp only [maxLen]; omega) (by omega) rfl (fun z143 hz143 => ?_)
            refine RunL.val (Val.pure rfl) rfl rfl rfl ?_
            refine RunL.nil ?_
            refine RunE.next ?_
            refine RunC.region ?_
            obtain ⟨bz143, cz143, rz143, rfl, lz1431, lz1432, lz1433⟩ := hz143.has (by omega)
            refine RunL.val (Val.fieldAddr rfl fld_25_1) rfl rfl rfl ?_
            refine RunL.val (Val.load_one rfl (.tail _ (.tail _ (.tail _ (.tail _ (.head _))))) ty_23 rfl) rfl rfl rfl ?_
            refine RunL.val (Val.load_agg rfl (.tail _ (.tail _ (.head _))) ty_50 rfl) rfl rfl rfl ?_
            refine RunL.new (New.buildSlice (parts := [(0, .tmp 146)]) rfl sl_23 zero_50 rfl rfl rfl rfl) rfl rfl rfl (fun b147 => ?_)
            refine RunL.append (A := [(b147, _), (b142, _), (b36.1, _), (b15, _), (b14, _), (b6, _), (b36.2, _), (be, _), (bo, _), (bz143, _)]) (B := _) (x := CD) (ys := (Tn.cells ⟨cc, pn, pt⟩)) ap_23 rfl rfl rfl hcd rfl (fun h => by cases h) (fun w hm => src_blk (hm.at (.head _))) (one_of rfl) (by simp only [maxLen]; omega) (by omega) rfl (fun z148 hz148 => ?_)
            obtain ⟨bz148, cz148, rz148, rfl, lz1481, lz1482, lz1483⟩ := hz148.has (by omega)
            refine RunL.val (Val.fieldAddr rfl fld_25_1) rfl rfl rfl ?_
            refine RunL.sto (Sto.store rfl rfl (.there (.there (.there (.there (.there .here))))) ty_23 rfl rfl) rfl rfl ?_
            refine RunL.nil ?_
            refine RunE.block_normal ?_
            refine RunE.next ?_
            refine RunC.region ?_
            refine RunL.val (Val.add rfl rfl (IntWalk.i64_in _ ⟨by omega, by omega⟩)) rfl rfl rfl ?_
            try rw [hNN]
            refine RunL.val (Val.pure rfl) rfl rfl rfl ?_
            refine RunL.nil ?_
            exact RunE.roundX (A4 + 1, (some (bz143, cz143, rz143)), (some (bz148, cz148, rz148)), tl ++ [p], cl ++ [⟨cc, pn, pt⟩], u ||| 2 ^ p) (by omega) ⟨by omega, (by rw [nat_snoc]; exact hz143), (by rw [← flat_snoc]; exact hz148), hch.snoc hpE hne12 hee hub (torn_of hen ccI hp1 hp3 hp2 hp4)⟩ rfl (Sub.consE (t := 101) rfl rfl (Sub.consE (t := 11) rfl rfl (Sub.consE (t := 12) rfl rfl (Sub.cons (t := 0) rfl (Sub.cons (t := 1) rfl (Sub.cons (t := 5) rfl (Sub.cons (t := 6) rfl (Sub.cons (t := 7) rfl (Sub.cons (t := 100) rfl (Sub.nil _)))))))))) (.cons (.there (.there (.there (.there (.there .here))))) rfl (.cons (.there (.there .here)) rfl (.cons (.there (.there (.there (.there .here)))) rfl (.cons (.there (.there (.there (.there .here)))) rfl (.cons (.there (.there (.there (.there .here)))) rfl (.cons (.there (.there (.there (.there .here)))) (by rw [nat_snoc]) (.cons (.there (.there (.there (.there .here)))) (by rw [← flat_snoc]) (Pick.skip (Pick.skip (Pick.skip (Pick.skip (Pick.refl _))))))))))))
    · intro c3
      have c3' := c3; clear c3
      try simp only [decide_eq_true_eq, decide_eq_false_iff_not, Bool.not_eq_true', Bool.not_eq_false', Bool.and_eq_true, Bool.or_eq_true, Bool.and_eq_false_iff, Bool.or_eq_false_iff, Int.not_le, Int.not_lt] at c3'
      have hkn2 : k = NN := by omega
      have hcb := hch.bad
      have hck := hch.clen
      have htk := hch.tlen
      have hMX : mixedX (trueA L bo co cl CD).pl = true := true_mixed hLg (by omega) hcb (by omega)
      have hsm : MSm (trueA L bo co cl CD) := true_sm hLg (by omega) hcb (by omega)
      have hway : Hp.Way (esX (trueA L bo co cl CD)).length (fsX (trueA L bo co cl CD).pl) 0 tl := true_way (by rw [hES]; exact hch)
      obtain ⟨cn, lo, ca, SU, hC⟩ := true_all hMX hway hch.bit
      have hEe : (esX (trueA L bo co cl CD)).length = ES.length := congrArg List.length hES
      have hca := hC.ca0
      rw [hEe] at hca
      have hlolt := hC.lolt
      have hcalt := hC.calt
      have hlou := Nat.and_le_left (n := lo) (m := u)
      have hE12 : 2 ^ ES.length ≤ 2 ^ 12 := Nat.pow_le_pow_right (by decide) hne12
      have hE1 : 1 ≤ 2 ^ ES.length := Nat.one_le_two_pow
      have han : andN (2 ^ ES.length - 1) u < 4096 := andN_lt12 (by omega)
      have ycd : ownV CD k = .slice (ownQ CD) cl.length (ownC CD) := by rw [ownV_slice hcd, hck]
      have yL : Value.slice (some ⟨bo, 0, none⟩) L.length co = Value.slice (some ⟨bo, 0, none⟩) (trueA L bo co cl CD).bxs.length co := by rw [← tBx_len L]; rfl
      simp only [ycd, yL]
      refine RunC.exit ?_
      refine RunE.pass_exit ?_
      refine RunE.pass_exit ?_
      refine RunE.block_here ?_
      refine RunE.next ?_
      refine RunC.seq ?_
      refine RunC.region ?_
      refine RunL.val (Val.load_agg rfl (.head _) ty_25 rfl) rfl rfl rfl ?_
      refine RunL.callP (isCall_func rfl ent_19) rfl rfl rfl (fun w hm => (by have h9 := counth_calls (trueA L bo co cl CD) hsm w (true_ok (hm.at (.tail _ (.tail _ (.tail _ (.tail _ (.head _)))))) (fun b o h => hm.at (.tail _ (.tail _ (.tail _ (.tail _ (.tail _ ((by first | exact List.mem_append_right _ (List.mem_append_right _ (List.mem_append_left _ h)) | exact List.mem_append_right _ (List.mem_append_right _ (List.mem_append_right _ (List.mem_append_left _ h))))))))))) hcd (fun b o h => hm.at (.tail _ (.tail _ (.tail _ (.tail _ (.tail _ ((by first | exact List.mem_append_right _ (List.mem_append_left _ h) | exact List.mem_append_right _ (List.mem_append_right _ (List.mem_append_left _ h))))))))))); rw [hC.count] at h9; exact h9)) ?_
      iterate 5 refine RunL.val (Val.pure rfl) rfl rfl rfl ?_
      refine RunL.nil ?_
      refine RunE.next ?_
      refine RunC.seq ?_
      refine RunC.region ?_
      refine RunL.val (Val.load_agg rfl (.head _) ty_25 rfl) rfl rfl rfl ?_
      refine RunL.callNA [(b6, _), (b36.1, _), (b36.2, _), (be, _), (bo, _)] _ rfl (isCall_func rfl ent_25) rfl rfl rfl (fun w hm => sure_true (trueA L bo co cl CD) hsm w (true_ok (hm.at (.tail _ (.tail _ (.tail _ (.tail _ (.head _)))))) (fun b o h => hm.at (.tail _ (.tail _ (.tail _ (.tail _ (.tail _ ((by first | exact List.mem_append_right _ (List.mem_append_right _ (List.mem_append_left _ h)) | exact List.mem_append_right _ (List.mem_append_right _ (List.mem_append_right _ (List.mem_append_left _ h))))))))))) hcd (fun b o h => hm.at (.tail _ (.tail _ (.tail _ (.tail _ (.tail _ ((by first | exact List.mem_append_right _ (List.mem_append_left _ h) | exact List.mem_append_right _ (List.mem_append_right _ (List.mem_append_left _ h))))))))))) hC.sure) (fun z158 => ?_)
      obtain ⟨x158, hx158⟩ := z158
      dsimp only
      iterate 5 refine RunL.val (Val.pure rfl) rfl rfl rfl ?_
      refine RunL.nil ?_
      refine RunE.next ?_
      refine RunC.seq ?_
      refine RunC.region ?_
      refine RunL.val (Val.load_agg rfl (.head _) ty_25 rfl) rfl rfl rfl ?_
      refine RunL.callP (isCall_func rfl ent_27) rfl rfl rfl (fun w hm => (by have h9 := lost_calls (trueA L bo co cl CD) hsm w (true_ok (hm.at (.tail _ (.tail _ (.tail _ (.tail _ (.head _)))))) (fun b o h => hm.at (.tail _ (.tail _ (.tail _ (.tail _ (.tail _ ((by first | exact List.mem_append_right _ (List.mem_append_right _ (List.mem_append_right _ (List.mem_append_left _ h))) | exact List.mem_append_right _ (List.mem_append_right _ (List.mem_append_right _ (List.mem_append_right _ (List.mem_append_left _ h)))))))))))) hcd (fun b o h => hm.at (.tail _ (.tail _ (.tail _ (.tail _ (.tail _ ((by first | exact List.mem_append_right _ (List.mem_append_right _ (List.mem_append_left _ h)) | exact List.mem_append_right _ (List.mem_append_right _ (List.mem_append_right _ (List.mem_append_left _ h)))))))))))); rw [hC.lost] at h9; exact h9)) ?_
      iterate 7 refine RunL.val (Val.pure rfl) rfl rfl rfl ?_
      refine RunL.nil ?_
      refine RunE.next ?_
      refine RunC.seq ?_
      refine RunC.region ?_
      refine RunL.val (Val.load_agg rfl (.head _) ty_25 rfl) rfl rfl rfl ?_
      refine RunL.callP (isCall_func rfl ent_16) rfl rfl rfl (fun w hm => (by have h9 := why_calls (trueA L bo co cl CD) hsm w (true_ok (hm.at (.tail _ (.tail _ (.tail _ (.tail _ (.head _)))))) (fun b o h => hm.at (.tail _ (.tail _ (.tail _ (.tail _ (.tail _ ((by first | exact List.mem_append_right _ (List.mem_append_right _ (List.mem_append_right _ (List.mem_append_left _ h))) | exact List.mem_append_right _ (List.mem_append_right _ (List.mem_append_right _ (List.mem_append_right _ (List.mem_append_left _ h)))))))))))) hcd (fun b o h => hm.at (.tail _ (.tail _ (.tail _ (.tail _ (.tail _ ((by first | exact List.mem_append_right _ (List.mem_append_right _ (List.mem_append_left _ h)) | exact List.mem_append_right _ (List.mem_append_right _ (List.mem_append_right _ (List.mem_append_left _ h)))))))))))); rw [hC.why] at h9; exact h9)) ?_
      iterate 5 refine RunL.val (Val.pure rfl) rfl rfl rfl ?_
      refine RunL.nil ?_
      refine RunE.next ?_
      refine RunC.seq ?_
      refine RunC.seq ?_
      refine RunC.region ?_
      iterate 3 refine RunL.val (Val.pure rfl) rfl rfl rfl ?_
      refine RunL.sure (dj := 174) false rfl (by have := hC.cpos; simp; omega) ?_
      iterate 4 refine RunL.val (Val.pure rfl) rfl rfl rfl ?_
      refine RunL.sure (dj := 178) false rfl (by simp) ?_
      iterate 4 refine RunL.val (Val.pure rfl) rfl rfl rfl ?_
      refine RunL.sure (dj := 182) false rfl (by simp) ?_
      refine RunL.val (Val.pure rfl) rfl rfl rfl ?_
      refine RunL.val (Val.len_sl rfl sl_34) rfl rfl rfl ?_
      refine RunL.val (Val.pure rfl) rfl rfl rfl ?_
      refine RunL.val (Val.len_own rfl sl_34 htr) rfl rfl rfl ?_
      iterate 3 refine RunL.val (Val.pure rfl) rfl rfl rfl ?_
      refine RunL.sure (dj := 189) false rfl (by have := hC.slen; have := hch.tlen; simp; omega) ?_
      iterate 4 refine RunL.val (Val.pure rfl) rfl rfl rfl ?_
      refine RunL.sure (dj := 193) false rfl (by simp) ?_
      refine RunL.val (Val.pure rfl) rfl rfl rfl ?_
      refine RunL.val (Val.pure rfl) rfl rfl rfl ?_
      refine RunL.val (Val.and (a := lo) (b := u) rfl rfl (by show _ < 18446744073709551616; omega) (by show _ < 18446744073709551616; omega) (i64_inN (by omega))) rfl rfl rfl ?_
      iterate 3 refine RunL.val (Val.pure rfl) rfl rfl rfl ?_
      refine RunL.sure (dj := 199) false rfl (by simp [hC.lo0]) ?_
      refine RunL.val (Val.pure rfl) rfl rfl rfl ?_
      refine RunL.val (Val.len_sl rfl sl_23) rfl rfl rfl ?_
      refine RunL.val (Val.shl1 (b := ES.length) rfl rfl (by show _ ≤ 64; omega) (i64_inN (by omega))) rfl rfl rfl ?_
      refine RunL.val (Val.subN (a := 2 ^ ES.length) (b := 1) (2 ^ ES.length - 1) rfl rfl (by omega) (i64_inN (by omega))) rfl rfl rfl ?_
      refine RunL.val (Val.pure rfl) rfl rfl rfl ?_
      refine RunL.val (Val.andNot (a := 2 ^ ES.length - 1) (b := u) rfl rfl (by show _ < 18446744073709551616; omega) (by show _ < 18446744073709551616; omega) (i64_inN (by omega))) rfl rfl rfl ?_
      refine RunL.val (Val.pure rfl) rfl rfl rfl ?_
      refine RunL.val (Val.andNot (a := andN (2 ^ ES.length - 1) u) (b := ca) rfl rfl (by show _ < 18446744073709551616; omega) (by show _ < 18446744073709551616; omega) (i64_inN (by rw [hca]; omega))) rfl rfl rfl ?_
      iterate 3 refine RunL.val (Val.pure rfl) rfl rfl rfl ?_
      refine RunL.sure (dj := 210) false rfl (by simp [hca]) ?_
      iterate 4 refine RunL.val (Val.pure rfl) rfl rfl rfl ?_
      refine RunL.sure (dj := 214) false rfl (by simp) ?_
      iterate 3 refine RunL.val (Val.pure rfl) rfl rfl rfl ?_
      refine RunL.nil ?_
      refine RunE.next ?_
      refine RunC.cond rfl (fun h => absurd h (by simp)) ?_
      intro c6
      clear c6
      refine RunC.skip ?_
      refine RunE.next ?_
      refine RunC.seq ?_
      refine RunC.seq ?_
      refine RunC.region ?_
      refine RunL.val (Val.pure rfl) rfl rfl rfl ?_
      refine RunL.val (Val.len_own rfl sl_34 htr) rfl rfl rfl ?_
      refine RunL.val (Val.pure rfl) rfl rfl rfl ?_
      refine RunL.nil ?_
      refine RunE.next ?_
      refine RunC.block ?_
      refine RunC.loopK (k) (fun i q => (220, .int .i64 (i : Int)) :: q) (fun _ => _) (fun _ => []) (fun _ => True) trivial rfl (Sub.consE (t := 220) rfl rfl (Sub.cons (t := 6) rfl (Sub.cons (t := 12) rfl (Sub.cons (t := 18) rfl (Sub.cons (t := 218) rfl (Sub.cons (t := 219) rfl (Sub.nil _))))))) (.cons .here rfl (.cons .here rfl (.cons .here rfl (.cons .here rfl (.cons .here rfl (Pick.refl _)))))) ?_
      intro i iN iI
      clear iI
      refine RunC.seq ?_
      refine RunC.region ?_
      refine RunL.val (Val.pure rfl) rfl rfl rfl ?_
      refine RunL.nil ?_
      refine RunE.next ?_
      refine RunC.seq ?_
      refine RunC.cond rfl ?_ ?_
      · intro c7
        have c7' := c7; clear c7
        try simp only [decide_eq_true_eq, decide_eq_false_iff_not, Bool.not_eq_true', Bool.not_eq_false', Bool.and_eq_true, Bool.or_eq_true, Bool.and_eq_false_iff, Bool.or_eq_false_iff, Int.not_le, Int.not_lt] at c7'
        have hi : i < k := by omega
        have hi2 : i < tl.length := by omega
        obtain ⟨p, hp⟩ : ∃ p, tl[i] = p := ⟨_, rfl⟩
        have hpE : p < ES.length := hp ▸ hch.lt _ (List.getElem_mem hi2)
        obtain ⟨f, sh, s, hF, hf4, hFb, hSh, hsh, hs1, hs⟩ := hC.at_ i hi2
        rw [hp] at hFb hSh hs
        obtain ⟨hiS, hs2⟩ := List.getElem?_eq_some_iff.1 hs1
        refine RunC.skip ?_
        refine RunE.next ?_
        refine RunC.seq ?_
        refine RunC.block ?_
        refine RunC.seq ?_
        refine RunC.region ?_
        obtain ⟨bx158, cx158, rx158, rfl, lx1581, lx1582, lx1583⟩ := hx158.has (by have := hC.slen; omega)
        refine RunL.val (Val.pure rfl) rfl rfl rfl ?_
        obtain ⟨btr, ctr, rtr, rfl, ltr1, ltr2, ltr3⟩ := htr.has (by omega)
        refine RunL.val (Val.indexAddr_slp rfl rfl sl_34 (by omega) (by omega) rfl) rfl rfl rfl ?_
        refine RunL.val (Val.load_gen rfl (fun w hm => (Sl.rowsR (xs := intsW (natI tl)) (t := rtr) (hm.at (.tail _ (.tail _ (.tail _ (.tail _ (.tail _ (.tail _ (.head _)))))))) (ints_row _)).loadM1 (by decide) (Mem.refl w) (by simp) ty_3 (by rw [natI_len]; exact hi2) (v := .int .i64 (p : Int)) (by simp [natI, hp]))) rfl rfl rfl ?_
        refine RunL.val (Val.pure rfl) rfl rfl rfl ?_
        refine RunL.val (Val.pure rfl) rfl rfl rfl ?_
        refine RunL.nil ?_
        refine RunE.next ?_
        refine RunC.seq ?_
        refine RunC.region ?_
        refine RunL.val (Val.load_agg rfl (.head _) ty_25 rfl) rfl rfl rfl ?_
        refine RunL.val (Val.pure rfl) rfl rfl rfl ?_
        refine RunL.callP (isCall_func rfl ent_14) rfl rfl rfl (fun w hm => (by have h9 := fits_calls (trueA L bo co cl CD) hsm (i : Int) w (true_ok (hm.at (.tail _ (.tail _ (.tail _ (.tail _ (.head _)))))) (fun b o h => hm.at (.tail _ (.tail _ (.tail _ (.tail _ (.tail _ (.tail _ (.tail _ ((by first | exact List.mem_append_right _ (List.mem_append_left _ h) | exact List.mem_append_right _ (List.mem_append_right _ (List.mem_append_left _ h)))))))))))) hcd (fun b o h => hm.at (.tail _ (.tail _ (.tail _ (.tail _ (.tail _ (.tail _ (.tail _ ((by first | exact List.mem_append_left _ h | exact List.mem_append_right _ (List.mem_append_left _ h)))))))))))); rw [hF] at h9; exact h9)) ?_
        iterate 5 refine RunL.val (Val.pure rfl) rfl rfl rfl ?_
        refine RunL.nil ?_
        refine RunE.next ?_
        refine RunC.seq ?_
        refine RunC.region ?_
        refine RunL.val (Val.load_agg rfl (.head _) ty_25 rfl) rfl rfl rfl ?_
        refine RunL.val (Val.pure rfl) rfl rfl rfl ?_
        refine RunL.val (Val.pure rfl) rfl rfl rfl ?_
        refine RunL.callP (isCall_func rfl ent_21) rfl rfl rfl (fun w hm => (by have h9 := shareh_calls (trueA L bo co cl CD) hsm (i : Int) (p : Int) w (true_ok (hm.at (.tail _ (.tail _ (.tail _ (.tail _ (.head _)))))) (fun b o h => hm.at (.tail _ (.tail _ (.tail _ (.tail _ (.tail _ (.tail _ (.tail _ ((by first | exact List.mem_append_right _ (List.mem_append_left _ h) | exact List.mem_append_right _ (List.mem_append_right _ (List.mem_append_left _ h)))))))))))) hcd (fun b o h => hm.at (.tail _ (.tail _ (.tail _ (.tail _ (.tail _ (.tail _ (.tail _ ((by first | exact List.mem_append_left _ h | exact List.mem_append_right _ (List.mem_append_left _ h)))))))))))); rw [hSh] at h9; exact h9)) ?_
        iterate 5 refine RunL.val (Val.pure rfl) rfl rfl rfl ?_
        refine RunL.nil ?_
        refine RunE.next ?_
        refine RunC.seq ?_
        refine RunC.region ?_
        iterate 3 refine RunL.val (Val.pure rfl) rfl rfl rfl ?_
        refine RunL.sure (dj := 240) false rfl (by simp) ?_
        refine RunL.val (Val.pure rfl) rfl rfl rfl ?_
        refine RunL.val (Val.pure rfl) rfl rfl rfl ?_
        refine RunL.val (Val.shrN (a := f) (b := p) rfl rfl (by show p ≤ 64; omega)) rfl rfl rfl ?_
        refine RunL.val (Val.and (a := f >>> p) (b := 1) rfl rfl (by show _ < 18446744073709551616; have := Nat.shiftRight_le f p; omega) (by decide) (i64_inN (by have := Nat.and_le_right (n := f >>> p) (m := 1); omega))) rfl rfl rfl ?_
        iterate 3 refine RunL.val (Val.pure rfl) rfl rfl rfl ?_
        refine RunL.sure (dj := 247) false rfl (by simp only [shr_one hFb]; decide) ?_
        iterate 4 refine RunL.val (Val.pure rfl) rfl rfl rfl ?_
        refine RunL.sure (dj := 251) false rfl (by simp) ?_
        iterate 4 refine RunL.val (Val.pure rfl) rfl rfl rfl ?_
        refine RunL.sure (dj := 255) false rfl (by simp; omega) ?_
        refine RunL.val (Val.pure rfl) rfl rfl rfl ?_
        refine RunL.val (Val.pure rfl) rfl rfl rfl ?_
        refine RunL.val (Val.indexAddr_slp rfl rfl sl_34 (by omega) (by omega) rfl) rfl rfl rfl ?_
        refine RunL.val (Val.load_gen rfl (fun w hm => (Sl.rowsR (xs := intsW SU) (t := rx158) (hm.at (.tail _ (.tail _ (.tail _ (.tail _ (.tail _ (.head _))))))) (ints_row _)).loadM1 (by decide) (Mem.refl w) (by simp) ty_3 hiS (v := .int .i64 s) (by simp [hs2]))) rfl rfl rfl ?_
        refine RunL.val (Val.pure rfl) rfl rfl rfl ?_
        refine RunL.val (Val.pure rfl) rfl rfl rfl ?_
        refine RunL.andPart (dj := 261) (dp := 268) 7 rfl (fun g261 => by
          have g261' := g261
          try simp only [decide_eq_true_eq, decide_eq_false_iff_not, Bool.not_eq_true', Bool.not_eq_false', Bool.and_eq_true, Bool.or_eq_true, Bool.and_eq_false_iff, Bool.or_eq_false_iff, Int.not_le, Int.not_lt] at g261'
          refine RunL.val (Val.pure rfl) rfl rfl rfl ?_
          refine RunL.val (Val.pure rfl) rfl rfl rfl ?_
          refine RunL.val (Val.indexAddr_slp rfl rfl sl_34 (by omega) (by omega) rfl) rfl rfl rfl ?_
          refine RunL.val (Val.load_gen rfl (fun w hm => (Sl.rowsR (xs := intsW SU) (t := rx158) (hm.at (.tail _ (.tail _ (.tail _ (.tail _ (.tail _ (.head _))))))) (ints_row _)).loadM1 (by decide) (Mem.refl w) (by simp) ty_3 hiS (v := .int .i64 s) (by simp [hs2]))) rfl rfl rfl ?_
          iterate 3 refine RunL.val (Val.pure rfl) rfl rfl rfl ?_
          exact RunL.segEnd (Sub.cons rfl (Sub.skip rfl (Sub.skip rfl (Sub.skip rfl (Sub.skip rfl (Sub.skip rfl (Sub.skip rfl (Sub.skip rfl (Sub.same rfl (by rw [g261]) (Sub.refl _)))))))))) (List.Sublist.refl _)
        ) (fun g261 => by
          have g261' := g261
          try simp only [decide_eq_true_eq, decide_eq_false_iff_not, Bool.not_eq_true', Bool.not_eq_false', Bool.and_eq_true, Bool.or_eq_true, Bool.and_eq_false_iff, Bool.or_eq_false_iff, Int.not_le, Int.not_lt] at g261'
          iterate 6 refine RunL.no rfl rfl rfl ?_
          refine RunL.val (Val.pure rfl) rfl rfl rfl ?_
          exact RunL.segEnd (Sub.cons rfl (Sub.skip rfl (Sub.skip rfl (Sub.skip rfl (Sub.skip rfl (Sub.skip rfl (Sub.skip rfl (Sub.skip rfl (Sub.same rfl (by rw [g261]) (Sub.refl _)))))))))) (List.Sublist.refl _)
        ) ?_
        refine RunL.val (Val.pure rfl) rfl rfl rfl ?_
        refine RunL.nil ?_
        refine RunE.next ?_
        refine RunC.cond rfl (fun h => absurd h (by simp; intro h9; exact hs.resolve_left h9)) ?_
        intro c8
        clear c8
        refine RunC.skip ?_
        refine RunE.block_normal ?_
        refine RunE.next ?_
        refine RunC.region ?_
        refine RunL.val (Val.add rfl rfl (IntWalk.i64_in _ ⟨by omega, by omega⟩)) rfl rfl rfl ?_
        refine RunL.val (Val.pure rfl) rfl rfl rfl ?_
        refine RunL.nil ?_
        exact RunE.round (by omega) trivial rfl (Sub.consE (t := 220) rfl rfl (Sub.cons (t := 6) rfl (Sub.cons (t := 12) rfl (Sub.cons (t := 18) rfl (Sub.cons (t := 218) rfl (Sub.cons (t := 219) rfl (Sub.nil _))))))) (.cons .here rfl (.cons .here rfl (.cons .here rfl (.cons .here rfl (.cons .here rfl (.cons .here rfl (.cons .here rfl (Pick.refl _))))))))
      · intro c7
        have c7' := c7; clear c7
        try simp only [decide_eq_true_eq, decide_eq_false_iff_not, Bool.not_eq_true', Bool.not_eq_false', Bool.and_eq_true, Bool.or_eq_true, Bool.and_eq_false_iff, Bool.or_eq_false_iff, Int.not_le, Int.not_lt] at c7'
        have hik : i = k := by omega
        refine RunC.exit ?_
        refine RunE.pass_exit ?_
        refine RunE.pass_exit ?_
        refine RunE.block_here ?_
        refine RunE.next ?_
        refine RunC.seq ?_
        refine RunC.region ?_
        refine RunL.callP (isCall_func rfl ent_13) rfl rfl rfl (fun w hm => hawake_calls w) ?_
        refine RunL.val (Val.pure rfl) rfl rfl rfl ?_
        refine RunL.nil ?_
        refine RunE.next ?_
        refine RunC.ret ?_
        exact RunE.retP (.r1 rfl (.tmp rfl)) (by first | rfl | simp)
theorem htrue_far (c : Nat) (q : Option Addr) (cap : Nat) (W : World) : Calls Tryd.prog 5 #[.int .u8 (c : Int), .slice q 0 cap] W (Pure (.bool true) W) := by
  refine calls_start Tryd.func5 rfl rfl ?_
  refine RunC.seq ?_
  refine RunC.region ?_
  refine RunL.val (Val.pure rfl) rfl rfl rfl ?_
  refine RunL.nil ?_
  refine RunE.next ?_
  refine RunC.seq ?_
  refine RunC.seq ?_
  refine RunC.region ?_
  refine RunL.val (Val.pure rfl) rfl rfl rfl ?_
  refine RunL.val (Val.len_sl rfl sl_41) rfl rfl rfl ?_
  refine RunL.val (Val.pure rfl) rfl rfl rfl ?_
  refine RunL.nil ?_
  refine RunE.next ?_
  refine RunC.cond rfl ?_ (fun h => absurd h (by simp))
  intro c0
  clear c0
  refine RunC.seq ?_
  refine RunC.region ?_
  refine RunL.callP (isCall_func rfl ent_13) rfl rfl rfl (fun w hm => hawake_calls w) ?_
  refine RunL.val (Val.pure rfl) rfl rfl rfl ?_
  refine RunL.nil ?_
  refine RunE.next ?_
  refine RunC.ret ?_
  refine RunE.pass_ret ?_
  exact RunE.retP (.r1 rfl (.tmp rfl)) (by first | rfl | simp)
theorem htrue_calls (c : Nat) (hc : c < 256) (l : List Int) (hlr : ∀ v ∈ l, 0 ≤ v ∧ v ≤ 65535) (hll : l.length ≤ maxLen) (q : Option Addr) (b o cap : Nat) (W : World) (hS : Sl W q b o 1 (u16s l)) : Calls Tryd.prog 5 #[.int .u8 (c : Int), .slice q l.length cap] W (Pure (.bool true) W) := by
  rcases Nat.eq_zero_or_pos l.length with h | h
  · rw [h]
    exact htrue_far c q cap W
  · exact htrue_ok c hc l hlr hll q b o cap W hS h
end Go.Proofs.YtlhdalcipflblaaDoor
