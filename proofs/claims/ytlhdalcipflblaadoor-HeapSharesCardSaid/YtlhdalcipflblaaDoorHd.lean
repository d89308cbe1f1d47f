/- Layer 10, plain: there is a way just if no cards have too few entries. -/
import Derived.Test.YtlhdalcipflblaaDoorHc
set_option linter.unusedSimpArgs false
set_option linter.unusedVariables false
namespace Go.Hp
def nb (ne : Nat) (N : Nat → Nat → Bool) (S : List Nat) : Nat := (List.range ne).countP fun e => S.any fun c => N c e
structure Mat (ne : Nat) (N : Nat → Nat → Bool) (cs : List Nat) (m : Nat → Nat) : Prop where
  fit : ∀ c ∈ cs, m c < ne ∧ N c (m c) = true
  inj : ∀ c ∈ cs, ∀ d ∈ cs, m c = m d → c = d
theorem countP_or {α : Type} (p q : α → Bool) : ∀ l : List α, l.countP (fun x => p x || q x) = l.countP (fun x => p x && !q x) + l.countP q
  | [] => rfl
  | a :: l => by
    have ih := countP_or p q l
    simp only [List.countP_cons, ih]
    cases p a <;> cases q a <;> simp <;> omega
theorem countP_le1 {p q : Nat → Bool} {e0 : Nat} (h : ∀ x, q x = (p x && !decide (x = e0))) : ∀ {l : List Nat}, l.Nodup → l.countP p ≤ l.countP q + 1
  | [], _ => by simp
  | a :: l, hl => by
    obtain ⟨h1, h2⟩ := List.nodup_cons.1 hl
    by_cases ha : a = e0
    · subst ha
      have e : l.countP p = l.countP q := by
        refine List.countP_congr fun x hx => ?_
        have : ¬ x = a := fun e => h1 (e ▸ hx)
        rw [h x]; simp [this]
      simp only [List.countP_cons]
      rw [e]
      split <;> split <;> omega
    · have ih := countP_le1 h h2
      simp only [List.countP_cons, h a]
      simp only [ha, decide_false, Bool.not_false, Bool.and_true]
      omega
theorem any_and {α : Type} (p : α → Bool) (b : Bool) : ∀ l : List α, l.any (fun c => p c && b) = (l.any p && b)
  | [] => rfl
  | a :: l => by
    rw [List.any_cons, List.any_cons, any_and p b l]
    cases p a <;> cases b <;> simp
theorem hall (ne : Nat) : ∀ (n : Nat) (cs : List Nat), cs.length = n → cs.Nodup → ∀ N : Nat → Nat → Bool, (∀ S : List Nat, S.Nodup → S ⊆ cs → S.length ≤ nb ne N S) → ∃ m, Mat ne N cs m := by
  intro n
  induction n using Nat.strongRecOn with
  | _ n ih =>
  intro cs hlen hnd N hH
  cases cs with
  | nil => exact ⟨fun _ => 0, fun c h => (by cases h), fun c h => (by cases h)⟩
  | cons c0 cs =>
    simp only [List.length_cons] at hlen
    by_cases hB : ∃ S : List Nat, S.Nodup ∧ S ⊆ c0 :: cs ∧ S ≠ [] ∧ S.length < n ∧ nb ne N S ≤ S.length
    · obtain ⟨S, s1, s2, s3, s4, s5⟩ := hB
      obtain ⟨m1, h1⟩ := ih S.length s4 S rfl s1 N fun T t1 t2 => hH T t1 fun x hx => s2 (t2 hx)
      let R := (c0 :: cs).filter fun x => !decide (x ∈ S)
      have hR : ∀ x, x ∈ R ↔ x ∈ c0 :: cs ∧ x ∉ S := fun x => by simp only [R, List.mem_filter, Bool.not_eq_true', decide_eq_false_iff_not]
      have hRl : R.length < n := by
        have e : (c0 :: cs).filter (fun x => decide (x ∈ S)) ≠ [] := by
          cases S with
          | nil => exact absurd rfl s3
          | cons a S =>
            have : a ∈ (c0 :: cs).filter (fun x => decide (x ∈ a :: S)) := List.mem_filter.2 ⟨s2 (by simp), by simp⟩
            intro h; rw [h] at this; cases this
        have h3 : ((c0 :: cs).filter (fun x => decide (x ∈ S))).length + R.length = (c0 :: cs).length := by
          simp only [R, ← List.countP_eq_length_filter]
          have := List.length_eq_countP_add_countP (l := c0 :: cs) (p := fun x => decide (x ∈ S))
          rw [this]
          congr 1
          refine List.countP_congr fun x _ => ?_
          simp
        have h4 := List.length_pos_iff.2 e
        simp only [List.length_cons] at h3
        omega
      have hRn : R.Nodup := hnd.filter _
      obtain ⟨m2, h2⟩ := ih R.length hRl R rfl hRn (fun c e => N c e && !(S.any fun c => N c e)) fun T t1 t2 => by
        have hd : (T ++ S).Nodup := by
          rw [List.nodup_append]
          exact ⟨t1, s1, fun a ha b hb e => ((hR a).1 (t2 ha)).2 (e ▸ hb)⟩
        have h3 := hH (T ++ S) hd fun x hx => by
          rcases List.mem_append.1 hx with h | h
          · exact ((hR x).1 (t2 h)).1
          · exact s2 h
        have h4 : nb ne N (T ++ S) = nb ne (fun c e => N c e && !(S.any fun c => N c e)) T + nb ne N S := by
          unfold nb
          have e1 : (fun e => (T ++ S).any fun c => N c e) = fun e => (T.any fun c => N c e) || (S.any fun c => N c e) := by funext e; rw [List.any_append]
          have e2 : (fun e => T.any fun c => N c e && !(S.any fun c => N c e)) = fun e => (T.any fun c => N c e) && !(S.any fun c => N c e) := by
            funext e
            cases S.any fun c => N c e <;> simp
          rw [e1, e2]
          exact countP_or _ _ _
        rw [List.length_append] at h3
        omega
      refine ⟨fun c => if c ∈ S then m1 c else m2 c, fun c hc => ?_, fun c hc d hd he => ?_⟩
      · by_cases h : c ∈ S
        · simp only [if_pos h]; exact h1.fit c h
        · simp only [if_neg h]
          have := h2.fit c ((hR c).2 ⟨hc, h⟩)
          rw [Bool.and_eq_true] at this
          exact ⟨this.1, this.2.1⟩
      · have cross : ∀ a b, a ∈ S → b ∈ c0 :: cs → b ∉ S → m1 a ≠ m2 b := fun a b ha hb hbS e => by
          have g1 := h1.fit a ha
          have g2 := h2.fit b ((hR b).2 ⟨hb, hbS⟩)
          rw [Bool.and_eq_true, Bool.not_eq_true', List.any_eq_false] at g2
          exact g2.2.2 a ha (e ▸ g1.2)
        by_cases h : c ∈ S <;> by_cases h' : d ∈ S <;> simp only [h, h', if_true, if_false] at he
        · exact h1.inj c h d h' he
        · exact absurd he (cross c d h hd h')
        · exact absurd he.symm (cross d c h' hc h)
        · exact h2.inj c ((hR c).2 ⟨hc, h⟩) d ((hR d).2 ⟨hd, h'⟩) he
    · have hA : ∀ S : List Nat, S.Nodup → S ⊆ c0 :: cs → S ≠ [] → S.length < n → S.length + 1 ≤ nb ne N S := fun S s1 s2 s3 s4 => by
        rcases Nat.lt_or_ge S.length (nb ne N S) with h | h
        · exact h
        · exact absurd ⟨S, s1, s2, s3, s4, h⟩ hB
      have h0 := hH [c0] (by simp) (by simp)
      have h0' : 0 < nb ne N [c0] := h0
      unfold nb at h0'
      rw [List.countP_pos_iff] at h0'
      obtain ⟨e0, he0, hN0⟩ := h0'
      have he0 := List.mem_range.1 he0
      have hN0 : N c0 e0 = true := by simpa using hN0
      obtain ⟨hc0, hcs⟩ := List.nodup_cons.1 hnd
      obtain ⟨m, hm⟩ := ih cs.length (by omega) cs rfl hcs (fun c e => N c e && !decide (e = e0)) fun S s1 s2 => by
        cases S with
        | nil => simp
        | cons a S =>
          have h1 := hA (a :: S) s1 (fun x hx => List.mem_cons_of_mem _ (s2 hx)) (by simp) (by have := s1.length_le_of_subset s2; simp only [List.length_cons] at this ⊢; omega)
          have h2 : nb ne N (a :: S) ≤ nb ne (fun c e => N c e && !decide (e = e0)) (a :: S) + 1 := by
            unfold nb
            refine countP_le1 (e0 := e0) (fun x => ?_) List.nodup_range
            exact any_and (fun c => N c x) (!decide (x = e0)) (a :: S)
          omega
      have hne : ∀ c ∈ cs, c ≠ c0 := fun c hc e => hc0 (e ▸ hc)
      have hme : ∀ c ∈ cs, m c ≠ e0 := fun c hc e => by
        have := (hm.fit c hc).2
        rw [e] at this
        simp at this
      refine ⟨fun c => if c = c0 then e0 else m c, fun c hc => ?_, fun c hc d hd he => ?_⟩
      · by_cases h : c = c0
        · simp only [if_pos h]; exact ⟨he0, h ▸ hN0⟩
        · simp only [if_neg h]
          have := hm.fit c ((List.mem_cons.1 hc).resolve_left h)
          rw [Bool.and_eq_true] at this
          exact ⟨this.1, this.2.1⟩
      · by_cases h : c = c0 <;> by_cases h' : d = c0 <;> simp only [h, h', if_true, if_false] at he
        · rw [h, h']
        · exact absurd he.symm (hme d ((List.mem_cons.1 hd).resolve_left h'))
        · exact absurd he (hme c ((List.mem_cons.1 hc).resolve_left h))
        · exact hm.inj c ((List.mem_cons.1 hc).resolve_left h) d ((List.mem_cons.1 hd).resolve_left h') he
theorem nd_inj {l : List Nat} (h : l.Nodup) {i j : Nat} (hi : i < l.length) (hj : j < l.length) (e : l[i] = l[j]) : i = j := by
  have hp := List.pairwise_iff_getElem.1 h
  rcases Nat.lt_trichotomy i j with h1 | h1 | h1
  · exact absurd e (hp i j hi hj h1)
  · exact h1
  · exact absurd e.symm (hp j i hj hi h1)
/-- The cards of a set of which the union is short. -/
def fitN (fs : List Nat) (c e : Nat) : Bool := (fs.getD c 0).testBit e
theorem way_of {ne : Nat} {fs : List Nat} (h : ∀ S : List Nat, S.Nodup → (∀ c ∈ S, c < fs.length) → S.length ≤ nb ne (fitN fs) S) : ∃ l, Way ne fs 0 l := by
  obtain ⟨m, hm⟩ := hall ne fs.length (List.range fs.length) (by simp) List.nodup_range (fitN fs) fun S s1 s2 => h S s1 fun c hc => List.mem_range.1 (s2 hc)
  refine ⟨(List.range fs.length).map m, by simp, fun k hk => ?_, fun x _ => by simp, ?_⟩
  · have hk2 : k < fs.length := by simpa using hk
    simp only [List.getElem_map, List.getElem_range]
    exact hm.fit k (List.mem_range.2 hk2)
  · rw [List.nodup_iff_pairwise_ne, List.pairwise_map]
    exact List.nodup_range.imp_of_mem fun ha hb hab e => hab (hm.inj _ ha _ hb e)
theorem way_no {ne : Nat} {fs : List Nat} {l : List Nat} (h : Way ne fs 0 l) {S : List Nat} (hS : S.Nodup) (hb : ∀ c ∈ S, c < fs.length) : S.length ≤ nb ne (fitN fs) S := by
  have h1 : (S.map fun c => l.getD c ne).Nodup := by
    rw [List.nodup_iff_pairwise_ne, List.pairwise_map]
    refine hS.imp_of_mem fun {a b} ha hb' hab e => hab ?_
    have ha2 : a < l.length := by rw [h.len]; exact hb a ha
    have hb2 : b < l.length := by rw [h.len]; exact hb b hb'
    simp only [List.getD_eq_getElem?_getD, List.getElem?_eq_getElem ha2, List.getElem?_eq_getElem hb2, Option.getD_some] at e
    exact nd_inj h.nd ha2 hb2 e
  have h2 : (S.map fun c => l.getD c ne) ⊆ (List.range ne).filter fun e => S.any fun c => fitN fs c e := by
    intro x hx
    obtain ⟨c, hc, rfl⟩ := List.mem_map.1 hx
    have hc2 : c < l.length := by rw [h.len]; exact hb c hc
    have h3 := h.fit c hc2
    have e : l.getD c ne = l[c] := by simp [List.getD_eq_getElem?_getD, hc2]
    rw [e]
    exact List.mem_filter.2 ⟨List.mem_range.2 h3.1, List.any_eq_true.2 ⟨c, hc, h3.2⟩⟩
  have h3 := h1.length_le_of_subset h2
  rw [List.length_map] at h3
  rw [nb, List.countP_eq_length_filter]
  exact h3
end Go.Hp
