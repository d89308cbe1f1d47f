/- Layer 3, plain laws: the least trimming of the reference is that of the package. -/
import Derived.Test.YthoheicppmbepaaGreatMu
set_option linter.unusedSimpArgs false
set_option linter.unusedVariables false
namespace Go.Pw1
open Go Go.Eng
def fitR (c : Cd) (t : Tr) : Bool := (hurtRF c t (seenN c.p)).isNone
theorem fit_same {c : Cd} (hp : isPair c.p = true) (t : Tr) : fitT c t = fitR c t := by
  unfold fitT fitR
  rw [hurtM_same hp]
  have h := hurtRF_none (c := c) (t := t) (l := seenN c.p)
  cases h2 : hurtRF c t (seenN c.p) with
  | none => rfl
  | some x =>
    rw [h2] at h
    simp only [Option.getD_some, Option.isNone_some, decide_eq_false_iff_not]
    intro h0
    have h3 : ∀ l : List Int, hurtRF c t l = some x → x.2 ≠ 0 := by
      intro l
      induction l with
      | nil => intro h; cases h
      | cons i l ih =>
        unfold hurtRF
        split
        · exact ih
        · rename_i hz; intro h; cases h; exact hz
    exact h3 _ h2 h0
def blockR (o : Option Tr) (t : Tr) : Bool := match o with | some u => decide (sumT u ≤ sumT t) | none => false
def stepR (c : Cd) (o : Option Tr) (t : Tr) : Option Tr := if !trR c t || blockR o t then o else if fitR c t then some t else o
def cuD (a b : Int) (l : List Int) : List Tr := l.map fun d => ⟨a, b, d, a + b - d⟩
def cuB (a : Int) (n : Nat) (l : List Int) : List Tr := l.flatMap fun b => cuD a b (fromZ 0 n)
def cuA (n : Nat) (l : List Int) : List Tr := l.flatMap fun a => cuB a n (fromZ 0 n)
def cubeR (c : Cd) : List Tr := cuA (c.cuts + 1).toNat (fromZ 0 (c.cuts + 1).toNat)
def bestR (c : Cd) : Option Tr := (cubeR c).foldl (stepR c) none
theorem cuD_snoc (a b d : Int) (l : List Int) : cuD a b (l ++ [d]) = cuD a b l ++ [⟨a, b, d, a + b - d⟩] := by simp [cuD]
theorem cuB_snoc (a b : Int) (n : Nat) (l : List Int) : cuB a n (l ++ [b]) = cuB a n l ++ cuD a b (fromZ 0 n) := by simp [cuB]
theorem cuA_snoc (a : Int) (n : Nat) (l : List Int) : cuA n (l ++ [a]) = cuA n l ++ cuB a n (fromZ 0 n) := by simp [cuA]
theorem cube_mem {c : Cd} {t : Tr} (h : trIs c t = true) : t ∈ cubeR c := by
  obtain ⟨h1, h2⟩ := trIs_ok h
  have a1 := h1.a1
  have a2 := h1.a2
  have b1 := h1.b1
  have b2 := h1.b2
  have c1 := h1.c1
  have c2 := h1.c2
  simp only [cubeR, cuA, cuB, cuD, List.mem_flatMap, List.mem_map, fromZ_mem]
  exact ⟨t.ll, by omega, t.lr, by omega, t.rl, by omega, by cases t; simp only at h2 ⊢; congr 1; omega⟩
theorem cuD_pw (a b : Int) {l : List Int} (h : l.Pairwise (· < ·)) : (cuD a b l).Pairwise lexT := by
  unfold cuD
  exact List.pairwise_map.2 (h.imp fun {x y} hxy => .inr ⟨rfl, .inr ⟨rfl, .inl hxy⟩⟩)
theorem cube_pw (c : Cd) : (cubeR c).Pairwise lexT := by
  refine flat_pw (fromZ_pw _ _) (fun a _ => flat_pw (fromZ_pw _ _) (fun b _ => cuD_pw a b (fromZ_pw _ _)) fun a b hab x hx y hy => ?_) fun a b hab x hx y hy => ?_
  · obtain ⟨d, _, rfl⟩ := List.mem_map.1 hx
    obtain ⟨e, _, rfl⟩ := List.mem_map.1 hy
    exact .inr ⟨rfl, .inl hab⟩
  · obtain ⟨a1, _, hx⟩ := List.mem_flatMap.1 hx
    obtain ⟨b1, _, hy⟩ := List.mem_flatMap.1 hy
    obtain ⟨d, _, rfl⟩ := List.mem_map.1 hx
    obtain ⟨e, _, rfl⟩ := List.mem_map.1 hy
    exact .inl hab
def okR (c : Cd) (t : Tr) : Bool := trR c t && fitR c t
/-- What the fold has of the trimmings before. -/
def BestOf (c : Cd) (l : List Tr) (o : Option Tr) : Prop :=
  (o = none → ∀ v ∈ l, okR c v = false) ∧ ∀ u, o = some u → u ∈ l ∧ okR c u = true ∧ ∀ v ∈ l, okR c v = true → v = u ∨ befT u v
theorem BestOf.step {c : Cd} {l : List Tr} {o : Option Tr} {t : Tr} (h : BestOf c l o) (hl : ∀ v ∈ l, lexT v t) : BestOf c (l ++ [t]) (stepR c o t) := by
  obtain ⟨h1, h2⟩ := h
  unfold stepR
  by_cases ht : trR c t = true
  · by_cases hb : blockR o t = true
    · simp only [ht, hb, Bool.not_true, Bool.false_or, if_true]
      cases o with
      | none => cases hb
      | some u =>
        obtain ⟨g1, g2, g3⟩ := h2 u rfl
        have hs : sumT u ≤ sumT t := by simpa [blockR] using hb
        refine ⟨fun h => (by cases h), fun u' hu' => ?_⟩
        cases hu'
        refine ⟨List.mem_append_left _ g1, g2, fun v hv hv2 => ?_⟩
        rcases List.mem_append.1 hv with hv | hv
        · exact g3 v hv hv2
        · cases List.mem_singleton.1 hv
          right
          have := hl u g1
          unfold befT
          rcases Int.lt_or_eq_of_le hs with h | h
          · exact .inl h
          · exact .inr ⟨h, this⟩
    · have hb' : blockR o t = false := by simpa using hb
      by_cases hf : fitR c t = true
      · simp only [ht, hb', hf, Bool.not_true, Bool.false_or, Bool.false_eq_true, if_false, if_true]
        refine ⟨fun h => (by cases h), fun u' hu' => ?_⟩
        cases hu'
        refine ⟨by simp, by simp [okR, ht, hf], fun v hv hv2 => ?_⟩
        rcases List.mem_append.1 hv with hv | hv
        · right
          cases o with
          | none => rw [h1 rfl v hv] at hv2; cases hv2
          | some u =>
            obtain ⟨g1, g2, g3⟩ := h2 u rfl
            have hs : sumT t < sumT u := by simpa [blockR] using hb'
            left
            rcases g3 v hv hv2 with rfl | h
            · exact hs
            · unfold befT at h; omega
        · exact .inl (List.mem_singleton.1 hv)
      · have hf' : fitR c t = false := by simpa using hf
        simp only [ht, hb', hf', Bool.not_true, Bool.false_or, Bool.false_eq_true, if_false]
        have hok : okR c t = false := by simp [okR, hf']
        refine ⟨fun h v hv => ?_, fun u hu => ?_⟩
        · rcases List.mem_append.1 hv with hv | hv
          · exact h1 h v hv
          · cases List.mem_singleton.1 hv; exact hok
        · obtain ⟨g1, g2, g3⟩ := h2 u hu
          refine ⟨List.mem_append_left _ g1, g2, fun v hv hv2 => ?_⟩
          rcases List.mem_append.1 hv with hv | hv
          · exact g3 v hv hv2
          · cases List.mem_singleton.1 hv; rw [hok] at hv2; cases hv2
  · have ht' : trR c t = false := by simpa using ht
    simp only [ht', Bool.not_false, Bool.true_or, if_true]
    have hok : okR c t = false := by simp [okR, ht']
    refine ⟨fun h v hv => ?_, fun u hu => ?_⟩
    · rcases List.mem_append.1 hv with hv | hv
      · exact h1 h v hv
      · cases List.mem_singleton.1 hv; exact hok
    · obtain ⟨g1, g2, g3⟩ := h2 u hu
      refine ⟨List.mem_append_left _ g1, g2, fun v hv hv2 => ?_⟩
      rcases List.mem_append.1 hv with hv | hv
      · exact g3 v hv hv2
      · cases List.mem_singleton.1 hv; rw [hok] at hv2; cases hv2
theorem BestOf.fold {c : Cd} : ∀ {l pre : List Tr} {o : Option Tr}, BestOf c pre o → (pre ++ l).Pairwise lexT → BestOf c (pre ++ l) (l.foldl (stepR c) o)
  | [], pre, o, h, _ => by simpa using h
  | t :: l, pre, o, h, hp => by
    have e : pre ++ t :: l = (pre ++ [t]) ++ l := by simp
    rw [e] at hp ⊢
    have h1 := (List.pairwise_append.1 (List.pairwise_append.1 hp).1).2.2
    exact BestOf.fold (h.step fun v hv => h1 v hv t (by simp)) hp
theorem bestR_of (c : Cd) : BestOf c (cubeR c) (bestR c) := by
  have := BestOf.fold (c := c) (l := cubeR c) (pre := []) (o := none) ⟨fun _ v hv => (by cases hv), fun u hu => (by cases hu)⟩ (by simpa using cube_pw c)
  exact this
theorem find_first {c : Cd} : ∀ {l : List Tr} {t : Tr}, l.Pairwise befT → l.find? (fitT c) = some t → t ∈ l ∧ fitT c t = true ∧ ∀ v ∈ l, fitT c v = true → v = t ∨ befT t v
  | x :: l, t, hp, h => by
    cases hp with
    | cons hx hl =>
      simp only [List.find?_cons] at h
      cases hf : fitT c x with
      | true =>
        rw [hf] at h
        cases h
        refine ⟨by simp, hf, fun v hv _ => ?_⟩
        rcases List.mem_cons.1 hv with rfl | hv
        · exact .inl rfl
        · exact .inr (hx v hv)
      | false =>
        rw [hf] at h
        obtain ⟨g1, g2, g3⟩ := find_first hl h
        refine ⟨List.mem_cons_of_mem _ g1, g2, fun v hv hv2 => ?_⟩
        rcases List.mem_cons.1 hv with rfl | hv
        · rw [hf] at hv2; cases hv2
        · exact g3 v hv hv2
theorem befT_irr {a b : Tr} (h1 : befT a b) (h2 : befT b a) : False := by unfold befT lexT at h1 h2; omega
/-- What the least trimming is. -/
theorem best_is {c : Cd} (hc : c.Ok) {t : Tr} (h : bestM c = some t) : trIs c t = true ∧ fitT c t = true ∧ ∀ v, trIs c v = true → fitT c v = true → v = t ∨ befT t v := by
  obtain ⟨g1, g2, g3⟩ := find_first (trims_pw c) h
  exact ⟨(trims_mem hc).1 g1, g2, fun v hv => g3 v ((trims_mem hc).2 hv)⟩
theorem best_none {c : Cd} (hc : c.Ok) (h : bestM c = none) {v : Tr} (hv : trIs c v = true) : fitT c v = false := by
  have := List.find?_eq_none.1 h v ((trims_mem hc).2 hv)
  simpa using this
theorem best_same {c : Cd} (hp : isPair c.p = true) (hc : c.Ok) : bestM c = bestR c := by
  obtain ⟨r1, r2⟩ := bestR_of c
  have hok : ∀ v, okR c v = (trIs c v && fitT c v) := fun v => by unfold okR; rw [trR_eq, fit_same hp]
  cases hb : bestM c with
  | none =>
    cases hr : bestR c with
    | none => rfl
    | some u =>
      obtain ⟨g1, g2, g3⟩ := r2 u hr
      rw [hok, Bool.and_eq_true] at g2
      rw [best_none hc hb g2.1] at g2
      cases g2.2
  | some t =>
    obtain ⟨t1, t2, t3⟩ := best_is hc hb
    have hokt : okR c t = true := by rw [hok, t1, t2]; rfl
    cases hr : bestR c with
    | none => rw [r1 hr t (cube_mem t1)] at hokt; cases hokt
    | some u =>
      obtain ⟨g1, g2, g3⟩ := r2 u hr
      rw [hok, Bool.and_eq_true] at g2
      rcases t3 u g2.1 g2.2 with rfl | h1
      · rfl
      · rcases g3 t (cube_mem t1) hokt with h2 | h2
        · rw [h2]
        · exact (befT_irr h1 h2).elim
def trimR (c : Cd) : Tr × Int := if checkR c true = 0 then (match bestR c with | some t => (t, 0) | none => (⟨0, 0, 0, 0⟩, 11)) else (⟨0, 0, 0, 0⟩, checkR c true)
theorem trim_same (c : Cd) : trimX c = trimR c := by
  unfold trimX trimR
  rw [check_nil]
  split
  · rename_i h
    obtain ⟨hp, _, hc, _⟩ := check_pair h
    rw [best_same hp hc]
    cases bestR c <;> rfl
  · rfl
def whyRC (c : Cd) : Int × Int × Int × Int :=
  if (trimR c).2 = 11 then
    match wideM c.p (c.eyes.lo + c.prism + c.squeeze - c.eyes.hi) with
    | some x => (1, x.1, x.2, (trimR c).2)
    | none => match wideM c.p (c.front + c.deep) with | some x => (2, x.1, x.2, (trimR c).2) | none => (3, 0, 0, (trimR c).2)
  else (0, 0, 0, (trimR c).2)
theorem check_rng (c : Cd) (v : Bool) : checkR c v = 0 ∨ checkR c v = 1 ∨ checkR c v = 2 ∨ checkR c v = 4 := by
  unfold checkR
  rw [← power_same, power_err]
  split
  · split
    · split
      · split <;> simp
      · simp
    · simp
  · simp
theorem whyC_same (c : Cd) : whyC c = whyRC c := by
  unfold whyC whyRC trimR
  rw [check_nil]
  have hr := check_rng c true
  split
  · rename_i h
    obtain ⟨hp, _, hc, _⟩ := check_pair h
    rw [best_same hp hc]
    cases bestR c with
    | some t => rfl
    | none => rfl
  · rename_i h
    rw [if_neg (by simp only; omega)]
end Go.Pw1
