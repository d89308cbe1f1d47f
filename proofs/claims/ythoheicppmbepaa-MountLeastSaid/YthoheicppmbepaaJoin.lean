/- The engine: arguments that are read as data, by their shapes; and a law's statement out of its walk. No program is in sight. -/
import Derived.Test.YthoheicppmbepaaLoop
import Derived.ProofKit
import Derived.OpenShut
import Derived.ShutString
import Derived.ChangeOld
import Derived.Below
import Derived.Carry
import Derived.Deep.Slices
namespace Go.Eng
open Go Go.RowKit Go.ChangeShapes Go.WideShapes Go.ChangeAt

/-- A type's shape: numbers, truth values, texts, structs of these, and slices of them. -/
inductive Sh where
  | int (k : IntKind)
  | bool
  | str
  | st (l : List Sh)
  | sl (e : Sh)
mutual
def Sh.size : Sh → Nat
  | .st l => sizes l
  | _ => 1
def sizes : List Sh → Nat
  | [] => 0
  | s :: l => s.size + sizes l
end
def offsB (P : Program) : Nat → List Field → List Sh → Bool
  | _, [], [] => true
  | o, f :: fs, s :: l => f.offset == o && P.cellsOf f.type == s.size && offsB P (o + s.size) fs l
  | _, _, _ => false
def shapeB (P : Program) : Nat → TypeId → Option Sh
  | 0, _ => none
  | n + 1, t => match P.underlying t with
    | some .bool => some .bool
    | some (.int k) => some (.int k)
    | some .string => some .str
    | some (.slice e) => match shapeB P n e with
      | some s => if P.cellsOf e = s.size ∧ 0 < s.size then some (.sl s) else none
      | none => none
    | some (.struct fs) => match fs.toList.mapM (fun f => shapeB P n f.type) with
      | some l => if offsB P 0 fs.toList l = true ∧ P.cellsOf t = sizes l then some (.st l) else none
      | none => none
    | _ => none

/-- Cells that read as a shape. -/
inductive Rd (w : World) : Sh → List Value → Prop
  | int {k : IntKind} {n : Int} (h : (Lit.int k n).wf = true) : Rd w (.int k) [.int k n]
  | bool {b : Bool} : Rd w .bool [.bool b]
  | str {s : ByteArray} (h : s.size ≤ maxLen) : Rd w .str [.string s]
  | rec0 : Rd w (.st []) []
  | recS {s : Sh} {l : List Sh} {cs ds : List Value} (h : Rd w s cs) (hl : Rd w (.st l) ds) : Rd w (.st (s :: l)) (cs ++ ds)
  | slNil {e : Sh} : Rd w (.sl e) [.slice none 0 0]
  | sl {e : Sh} {a : Addr} {cap : Nat} {xs : List (List Value)} (h : Sl w (some a) a.block a.off e.size xs) (hl : xs.length ≤ cap) (hc : cap ≤ maxLen) (hx : ∀ x ∈ xs, Rd w e x) : Rd w (.sl e) [.slice (some a) xs.length cap]
def Sh.val : Sh → List Value → Value
  | .st _, cs => .agg cs.toArray
  | _, cs => cs.headD undef
inductive RdAll (w : World) : List Sh → List Value → Prop
  | nil : RdAll w [] []
  | cons {s : Sh} {l : List Sh} {cs : List Value} {vs : List Value} (h : Rd w s cs) (hl : RdAll w l vs) : RdAll w (s :: l) (s.val cs :: vs)

theorem list_of {α : Type} {p : Nat → α → Prop} : ∀ n : Nat, (∀ i, i < n → ∃ x, p i x) → ∃ xs : List α, xs.length = n ∧ ∀ i (h : i < xs.length), p i xs[i]
  | 0, _ => ⟨[], rfl, fun i h => by simp at h⟩
  | n + 1, h => by
    obtain ⟨xs, hl, hx⟩ := list_of n (fun i hi => h i (by omega))
    obtain ⟨x, hp⟩ := h n (by omega)
    refine ⟨xs ++ [x], by simp [hl], fun i hi => ?_⟩
    rw [List.getElem_append]
    split
    · exact hx i _
    · simp only [List.length_append, List.length_singleton] at hi
      obtain rfl : i = n := by omega
      simpa using hp

section
variable {H : Type} {enc : TypeId × Value → H} {P : Program} {w : World} {base : Nat} {spare : Nat → Bool} {held : Bool}
theorem rd_fields {cs : List Value} : ∀ (fs : List Field) (l : List Sh) (o : Nat), offsB P o fs l = true → (∀ (i : Nat) (f : Field) (s : Sh), fs[i]? = some f → l[i]? = some s → Rd w s ((cs.drop f.offset).take (P.cellsOf f.type))) → cs.length = o + sizes l → Rd w (.st l) (cs.drop o)
  | [], [], o, _, _, hl => by rw [List.drop_of_length_le (by simp [sizes] at hl; omega)]; exact .rec0
  | [], _ :: _, _, h, _, _ => by simp [offsB] at h
  | _ :: _, [], _, h, _, _ => by simp [offsB] at h
  | f :: fs, s :: l, o, h, hr, hl => by
    simp only [offsB, Bool.and_eq_true, beq_iff_eq] at h
    obtain ⟨⟨h1, h2⟩, h3⟩ := h
    have r0 := hr 0 f s rfl rfl
    rw [h1, h2] at r0
    have r1 := rd_fields fs l (o + s.size) h3 (fun i f' s' hf hs => hr (i + 1) f' s' (by simpa using hf) (by simpa using hs)) (by simp only [sizes] at hl; omega)
    have e : cs.drop o = (cs.drop o).take s.size ++ cs.drop (o + s.size) := by
      rw [← List.drop_drop, List.take_append_drop]
    rw [e]
    exact .recS r0 r1
theorem rd_of : ∀ (n fuel : Nat) (t : TypeId) (sh : Sh) (cs : List Value) (x : DataW H × List MemPlace), shapeB P n t = some sh → DataW.trod enc P w base spare held fuel t cs = some x → Rd w sh cs := by
  intro n
  induction n with
  | zero => intro fuel t sh cs x hs; cases hs
  | succ n ih =>
    intro fuel t sh cs x hs h
    unfold shapeB at hs
    split at hs
    · rename_i hu
      cases hs
      cases fuel with
      | zero => simp [DataW.trod] at h
      | succ fuel =>
        unfold DataW.trod at h
        rw [hu] at h
        split at h <;> simp_all <;> exact .bool
    · rename_i k hu
      cases hs
      cases fuel with
      | zero => simp [DataW.trod] at h
      | succ fuel =>
        unfold DataW.trod at h
        rw [hu] at h
        split at h <;> simp_all
        rename_i h1
        obtain ⟨rfl, rfl⟩ := h1
        exact .int h.1.2
    · rename_i hu
      cases hs
      cases fuel with
      | zero => simp [DataW.trod] at h
      | succ fuel =>
        unfold DataW.trod at h
        rw [hu] at h
        split at h <;> simp_all
        exact .str h.1
    · rename_i e hu
      split at hs
      · rename_i s he
        split at hs
        · rename_i hc
          cases hs
          rcases Deep.open_slice hu h with ⟨rfl, _⟩ | ⟨a, len, cap, m, n', D, Pl, rfl, hb, hl, hm, hmm, hx, hi⟩
          · exact .slNil
          · have hle : len ≤ m := by rw [hmm]; split <;> omega
            obtain ⟨xs, hxl, hxs⟩ := list_of (p := fun i cs' => w.cells? base (a.add (i * P.cellsOf e)) (P.cellsOf e) = some cs' ∧ DataW.trod enc P w base spare held n' e cs' = some (D i, Pl i)) len (fun i h => hi i (by omega))
            subst hxl
            refine .sl ⟨fun hne => ?_, fun x hx => ?_, fun i hi j hj => ?_⟩ hl hm (fun x hx => ?_)
            · have h0 : 0 < xs.length := List.length_pos_iff.2 hne
              obtain ⟨_, h2, h3⟩ := World.cells?_some (hxs 0 h0).1
              have h4 := h3 0 (by omega)
              rw [List.getElem?_eq_getElem (by omega)] at h4
              have h5 := World.cell?_spot h4
              obtain ⟨b, o, sp⟩ := a
              simp only [Nat.zero_mul, Addr.add, if_true] at h5
              rw [h5]
            · obtain ⟨i, hi, rfl⟩ := List.getElem_of_mem hx
              have := (World.cells?_some (hxs i hi).1).2.1
              omega
            · obtain ⟨_, h2, h3⟩ := World.cells?_some (hxs i hi).1
              rw [hc.1] at h2 h3
              have h4 := h3 j hj
              rw [← h4]
              have hsp : a.spot = none := by
                obtain ⟨_, h2', h3'⟩ := World.cells?_some (hxs 0 (by omega)).1
                have h4' := h3' 0 (by omega)
                rw [List.getElem?_eq_getElem (by omega)] at h4'
                have h5 := World.cell?_spot h4'
                simpa [Addr.add] using h5
              obtain ⟨b, o, sp⟩ := a
              simp only at hsp
              subst hsp
              congr 1
              unfold Addr.add
              by_cases hz : i * s.size = 0 <;> by_cases hz2 : j = 0 <;> simp [hz, hz2]
            · obtain ⟨i, hi, rfl⟩ := List.getElem_of_mem hx
              exact ih _ _ _ _ _ he (hxs i hi).2
        · cases hs
      · cases hs
    · rename_i fs hu
      split at hs
      · rename_i l he
        split at hs
        · rename_i hc
          cases hs
          obtain ⟨xs, n', _, _, hlen, hxl, hf⟩ := DataW.trod_struct hu h
          have hll : ∀ (i : Nat) (f : Field) (s : Sh), fs.toList[i]? = some f → l[i]? = some s → shapeB P n f.type = some s := by
            clear hc hf hxl
            generalize fs.toList = fl at he
            induction fl generalizing l with
            | nil => intro i f s h; simp at h
            | cons f0 fl ihf =>
              simp only [List.mapM_cons, Option.bind_eq_bind, Option.bind_eq_some_iff, Option.pure_def, Option.some.injEq] at he
              obtain ⟨s0, h0, l0, hl0, rfl⟩ := he
              intro i f s hi hs
              cases i with
              | zero => simp at hi hs; subst hi; subst hs; exact h0
              | succ i => exact ihf l0 hl0 i f s (by simpa using hi) (by simpa using hs)
          have := rd_fields (cs := cs) fs.toList l 0 hc.1 (fun i f s hi hs => by
            have h1 := hf i f (by simpa using hi)
            have hlt : i < fs.size := by have := (List.getElem?_eq_some_iff.1 hi).1; simpa using this
            rw [List.getElem?_eq_getElem (by omega)] at h1
            exact ih _ _ _ _ _ (hll i f s hi hs) h1) (by omega)
          simpa using this
        · cases hs
      · cases hs
    · cases hs
theorem val_of {n : Nat} {r : Reach} {b0 : Nat} {t : TypeId} {sh : Sh} {v : Value} (hs : shapeB P n t = some sh) (hv : Value.okWide P w r b0 t v) : v = sh.val v.cells.toList := by
  cases n with
  | zero => cases hs
  | succ n =>
    unfold shapeB at hs
    split at hs
    · rename_i hu; cases hs; obtain ⟨b, rfl⟩ := okWide_bool hu hv; rfl
    · rename_i hu; cases hs; obtain ⟨b, rfl⟩ := okWide_int hu hv; rfl
    · rename_i hu; cases hs; obtain ⟨b, rfl⟩ := okWide_string hu hv; rfl
    · rename_i hu
      obtain ⟨a, l, c, rfl⟩ := okWide_slice hu hv
      split at hs
      · split at hs
        · cases hs; rfl
        · cases hs
      · cases hs
    · rename_i hu
      obtain ⟨cs, rfl, _⟩ := okWide_struct hu hv
      split at hs
      · split at hs
        · cases hs; simp [Sh.val, Value.cells]
        · cases hs
      · cases hs
    · cases hs
theorem rdAll_of {n : Nat} {r : Reach} {b0 : Nat} : ∀ {ts : List TypeId} {shs : List Sh} {vs : List Value} {ds : List (DataW H)} {ps : List MemPlace}, ts.mapM (shapeB P n) = some shs →
    (∀ (j : Nat) t v, ts[j]? = some t → vs[j]? = some v → Value.okWide P w r b0 t v) → DataW.TrodAll enc P w base spare held ts vs ds ps → RdAll w shs vs
  | [], shs, vs, ds, ps, hs, _, h => by
    obtain ⟨rfl, _, _⟩ := trodAll_nil h
    simp at hs; subst hs; exact .nil
  | t :: ts, shs, vs, ds, ps, hs, hv, h => by
    obtain ⟨v, vs', d, ds', p, q, rfl, rfl, rfl, h0, hr⟩ := trodAll_cons h
    simp only [List.mapM_cons, Option.bind_eq_bind, Option.bind_eq_some_iff, Option.pure_def, Option.some.injEq] at hs
    obtain ⟨s0, hs0, l0, hl0, rfl⟩ := hs
    obtain ⟨fuel, hf⟩ := h0
    have hr' := rd_of n fuel t s0 _ _ hs0 hf
    have hv0 := val_of hs0 (hv 0 t v rfl rfl)
    have ih := rdAll_of hl0 (fun j t' v' hj hv' => hv (j + 1) t' v' (by simpa using hj) (by simpa using hv')) hr
    rw [hv0]
    exact .cons hr' ih
end

/-! ### The law's statement -/
theorem trodAll_below {H : Type} {enc : TypeId × Value → H} {P : Program} (hl : laidOutB P = true) {W W' : World} (hb : Below W.heap.size W W') : ∀ {ts : List TypeId} {vs : List Value} {ds : List (DataW H)} {ps : List MemPlace},
    ts.all (fun t => P.readableRec t && decide (t < P.types.size)) = true → DataW.TrodAll enc P W 0 (fun _ => true) true ts vs ds ps → DataW.TrodAll enc P W' 0 (fun b => decide (b < W.heap.size)) true ts vs ds ps
  | [], [], [], _, _, h => h
  | [], _ :: _, _, _, _, h => h.elim
  | [], [], _ :: _, _, _, h => h.elim
  | _ :: _, [], _, _, _, h => h.elim
  | _ :: _, _ :: _, [], _, _, h => h.elim
  | t :: ts, v :: vs, d :: ds, ps, hp, h => by
    obtain ⟨p, q, h0, hr, rfl⟩ := h
    simp only [List.all_cons, Bool.and_eq_true, decide_eq_true_eq] at hp
    have hlt : ∀ x ∈ p, x.block < W.heap.size := by obtain ⟨m, hm⟩ := h0; exact DataW.trod_lt m _ _ _ hm
    exact ⟨p, q, Below.trod hl hp.1.1 hp.1.2 h0 hb hlt, trodAll_below hl hb (by simpa [List.all_eq_true] using hp.2) hr, rfl⟩

theorem law_contract {H : Type} {enc : TypeId × Value → H} {P : Program} {f : Func} {s : ChangeSpec} {n : Nat} {shs : List Sh} {tb : TypeId} {F : FuncId} (hl : laidOutB P = true) (hsh : f.params.toList.mapM (shapeB P n) = some shs)
    (hp : f.params.toList.all (fun t => P.readableRec t && decide (t < P.types.size)) = true) (hr : f.resultTypes = #[tb]) (hb : P.underlying tb = some .bool) (hvars : s.vars = [])
    (hfn : ∀ ds : List (DataW H), ds.length = f.params.toList.length → s.fn H (ds ++ []) = { results := [.lit (.bool true)], args := ds })
    (walk : ∀ (W : World) (vs : List Value), RdAll W shs vs → Calls P F vs.toArray W (Pure (.bool true) W))
    {W : World} {base : Nat} {args : Array Value} {ds gs : List (DataW H)} {before : List MemPlace} (hval : ∀ (j : Nat) t v, f.params[j]? = some t → args[j]? = some v → Value.okWide P W .any base t v)
    (hW : DataW.Whole enc P f.params.toList s.vars false W args.toList ds gs before) :
    Calls P F args W fun e W' => ∃ v, e = .returned v ∧ s.post enc P f false true false false W args v W' := by
  have hW' := hW
  obtain ⟨p, q, hA, hV, rfl, hfz, hnd⟩ := hW
  rw [hvars] at hV
  obtain ⟨rfl, rfl⟩ := trodVars_none hV
  have hrd : RdAll W shs args.toList := rdAll_of hsh (fun j t v hj hv => hval j t v (by simpa using hj) (by simpa using hv)) hA
  have hlen : ds.length = f.params.toList.length := by
    clear hW' hval hrd hfn hp hsh hfz hnd hV
    generalize f.params.toList = ts at hA
    generalize args.toList = vs at hA
    induction ts generalizing vs ds p with
    | nil => obtain ⟨_, rfl, _⟩ := trodAll_nil hA; rfl
    | cons t ts ih =>
      obtain ⟨v, vs', d, ds', p, q, rfl, rfl, rfl, h0, hr⟩ := trodAll_cons hA
      simp [ih _ _ hr]
  refine (walk W args.toList hrd).mono fun e W' ⟨he, hm⟩ => ?_
  subst he
  have bel := hm.below
  refine ⟨_, rfl, ds, [], p ++ [], [], p, [], hW', ?_, ?_, ?_, bel.frame _, fun h => by cases h⟩
  · rw [hfn ds hlen, hr]
    exact trodAll_mk1 (shut_bool hb _)
  · rw [hfn ds hlen]
    exact trodAll_below hl bel hp hA
  · rw [hvars, hfn ds hlen]
    rfl
end Go.Eng
