/- Layer 1, plain facts for the law on pairs that are turned: what only the shifts and the rows decide. -/
import Derived.Test.YthppnhjggdebbaaFacts3
set_option linter.unusedSimpArgs false
set_option linter.unusedVariables false
namespace Go.Pw1
open Go Go.Eng
def keyT (t : Th) : (Int × Int) × (Int × Int) × Int := (shift t, (t.ly.lo - t.ry.hi, t.ly.hi - t.ry.lo), t.far)
/-- Two pairs that are told alike. -/
structure Sim (p p' : Pr) : Prop where
  f : p'.focal = p.focal
  b : p'.base = p.base
  tl : p'.tilt = p.tilt
  n : p'.near = p.near
  r : p'.far = p.far
  th : p'.things.map keyT = p.things.map keyT
theorem Sim.len {p p' : Pr} (h : Sim p p') : p'.things.length = p.things.length := by simpa using congrArg List.length h.th
theorem Sim.at {p p' : Pr} (h : Sim p p') (n : Int) : keyT (thingAt p' n) = keyT (thingAt p n) := by
  unfold thingAt
  have h1 := congrArg (fun l => l[n.toNat]?) h.th
  simp only [List.getElem?_map] at h1
  simp only [List.getD_eq_getElem?_getD]
  cases h2 : p'.things[n.toNat]? <;> cases h3 : p.things[n.toNat]? <;> rw [h2, h3] at h1 <;> simp at h1 ⊢
  exact h1
theorem key_shown {t t' : Th} (h : keyT t' = keyT t) : shownS t' = shownS t := by
  have h1 : shift t' = shift t := congrArg (·.1) h
  unfold shownS; rw [h1]
theorem key_level {p p' : Pr} {t t' : Th} (hp : Sim p p') (h : keyT t' = keyT t) : levelS p' t' = levelS p t := by
  have h1 := congrArg (·.2.1.1) h
  have h2 := congrArg (·.2.1.2) h
  simp only [keyT] at h1 h2
  unfold levelS
  rw [h1, h2, hp.tl]
theorem key_powers {p p' : Pr} {t t' : Th} (hp : Sim p p') (h : keyT t' = keyT t) : powersR p' t' = powersR p t := by
  have h3 : t'.far = t.far := congrArg (·.2.2) h
  unfold powersR powersS
  rw [key_shown h, key_level hp h, h3, hp.n, hp.r]
theorem sim_allL {p p' : Pr} (hp : Sim p p') : ∀ (l l' : List Th) (w : Int × Int), l'.map keyT = l.map keyT → allL p' w l' = allL p w l
  | [], [], w, _ => rfl
  | [], _ :: _, _, h => by simp at h
  | _ :: _, [], _, h => by simp at h
  | t :: l, t' :: l', w, h => by
    simp only [List.map_cons, List.cons.injEq] at h
    have h3 : t'.far = t.far := congrArg (·.2.2) h.1
    simp only [allL, h3, key_powers hp h.1]
    split <;> exact sim_allL hp l l' _ h.2
theorem Sim.all {p p' : Pr} (hp : Sim p p') : allS p' = allS p := by
  have h0 : powers0 p' = powers0 p := by unfold powers0; rw [hp.f, hp.b]
  unfold allS
  rw [h0]
  exact sim_allL hp _ _ _ hp.th
theorem Sim.thing {p p' : Pr} (hp : Sim p p') (n : Int) : thingR p' n = thingR p n := by unfold thingR; rw [hp.len]
theorem Sim.power {p p' : Pr} (hp : Sim p p') (h : isPair p = true) (h' : isPair p' = true) : powerX p' = powerX p := by
  rw [power_same, power_same]
  unfold powerR openR
  rw [h, h', hp.all]
theorem Sim.dist {p p' : Pr} (hp : Sim p p') (h : isPair p = true) (h' : isPair p' = true) (n : Int) : distX p' n = distX p n := by
  rw [dist_same, dist_same]
  have hk := hp.at n
  have h3 : (thingAt p' n).far = (thingAt p n).far := congrArg (·.2.2) hk
  unfold distR openR
  rw [h, h', hp.all, hp.thing, hp.n, hp.r]
  simp only [key_powers hp hk, key_shown hk, h3]
theorem Sim.why {p p' : Pr} (hp : Sim p p') (h : isPair p = true) (h' : isPair p' = true) (n : Int) : whyX p' n = whyX p n := by
  rw [why_same, why_same]
  have hk := hp.at n
  have h1 : shift (thingAt p' n) = shift (thingAt p n) := congrArg (·.1) hk
  unfold whyR openR
  rw [h, h', hp.all, hp.thing, hp.n]
  simp only [key_powers hp hk, key_level hp hk, h1]
theorem Sim.withK {p p' : Pr} (hp : Sim p p') (s : Nat) : ∀ k, withK p' s k = withK p s k
  | 0 => hp.all
  | k + 1 => by
    unfold Pw1.withK
    rw [hp.withK s k, key_powers hp (hp.at k)]
theorem Sim.rbest {p p' : Pr} (hp : Sim p p') : ∀ k, rbestK p' k = rbestK p k
  | 0 => rfl
  | k + 1 => by
    unfold rbestK
    rw [hp.rbest k, hp.withK, hp.len]
theorem Sim.few {p p' : Pr} (hp : Sim p p') (h : isPair p = true) (h' : isPair p' = true) : fewestX p' = fewestX p := by
  rw [few_same, few_same]
  unfold rfewX openR
  rw [h, h', hp.all, hp.len, hp.rbest]
  simp only [hp.withK]
def backS (s : Sp) : Sp := ⟨-s.hi, -s.lo⟩
def onS (d : Int) (s : Sp) : Sp := ⟨s.lo + d, s.hi + d⟩
def backT (t : Th) : Th := ⟨backS t.rx, backS t.ry, backS t.lx, backS t.ly, t.far⟩
def onT (d : Int) (t : Th) : Th := ⟨onS d t.lx, t.ly, onS d t.rx, t.ry, t.far⟩
theorem key_back (t : Th) : keyT (backT t) = keyT t := by
  simp only [keyT, backT, backS, shift]
  refine Prod.ext (Prod.ext ?_ ?_) (Prod.ext (Prod.ext ?_ ?_) rfl) <;> simp only <;> omega
theorem key_on (d : Int) (t : Th) : keyT (onT d t) = keyT t := by
  simp only [keyT, onT, onS, shift]
  refine Prod.ext (Prod.ext ?_ ?_) rfl <;> simp only <;> omega
def backP (p : Pr) : Pr := { p with things := p.things.map backT }
def onP (d : Int) (p : Pr) : Pr := { p with things := p.things.map (onT d) }
theorem sim_back (p : Pr) : Sim p (backP p) := ⟨rfl, rfl, rfl, rfl, rfl, by simp only [backP, List.map_map]; exact List.map_congr_left (fun t _ => key_back t)⟩
theorem sim_on (d : Int) (p : Pr) : Sim p (onP d p) := ⟨rfl, rfl, rfl, rfl, rfl, by simp only [onP, List.map_map]; exact List.map_congr_left (fun t _ => key_on d t)⟩
theorem take_map_snoc {α β : Type} {f : α → β} {l : List α} {k : Nat} (hk : k < l.length) {a : α} (ha : l[k] = a) : (l.take k).map f ++ [f a] = (l.take (k + 1)).map f := by
  rw [List.take_succ_eq_append_getElem hk, List.map_append, ha]; rfl
end Go.Pw1
