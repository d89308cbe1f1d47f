/- The engine: parts of a region whose ways meet again, and regions that draw their order. No program is in sight. -/
import Derived.Test.YthoheicppmbepaaCall
import Derived.OrdersHeld
namespace Go.Eng
open Go Go.RowKit

/-- One block, taken out of a list. -/
inductive Take : Nat × Obj → Blks → Blks → Prop
  | here {x : Nat × Obj} {l : Blks} : Take x (x :: l) l
  | there {x y : Nat × Obj} {l l' : Blks} (h : Take x l l') : Take x (y :: l) (y :: l')
/-- Some blocks of a list, in whatever order; what they hold may be written otherwise. -/
inductive Pick : Blks → Blks → Prop
  | nil {l : Blks} : Pick [] l
  | cons {b : Nat} {o o' : Obj} {r l l' : Blks} (h : Take (b, o) l l') (he : o = o') (hr : Pick r l') : Pick ((b, o') :: r) l
theorem Pick.refl : ∀ (l : Blks), Pick l l
  | [] => .nil
  | (_, _) :: l => .cons .here rfl (Pick.refl l)
theorem Take.mem {x : Nat × Obj} {l l' : Blks} (h : Take x l l') : x ∈ l := by induction h <;> simp [*]
theorem Take.sub {x : Nat × Obj} {l l' : Blks} (h : Take x l l') : l'.Sublist l := by
  induction h with
  | here => exact List.sublist_cons_self _ _
  | there _ ih => exact ih.cons_cons _
theorem Take.perm {x : Nat × Obj} {l l' : Blks} (h : Take x l l') : l.Perm (x :: l') := by
  induction h with
  | here => exact List.Perm.refl _
  | there _ ih => exact (ih.cons _).trans (List.Perm.swap _ _ _)
theorem Pick.mem {r l : Blks} (h : Pick r l) : ∀ x ∈ r, x ∈ l := by
  induction h with
  | nil => intro x hx; cases hx
  | cons h he _ ih =>
    intro x hx
    subst he
    rcases List.mem_cons.1 hx with rfl | hx
    · exact h.mem
    · exact h.sub.mem (ih x hx)
theorem Pick.nodup {r l : Blks} (h : Pick r l) (hn : (l.map (·.1)).Nodup) : (r.map (·.1)).Nodup := by
  induction h with
  | nil => simp
  | cons h he hr ih =>
    subst he
    have h2 := (h.perm.map (·.1)).nodup_iff.1 hn
    simp only [List.map_cons, List.nodup_cons] at h2 ⊢
    refine ⟨fun hm => h2.1 ?_, ih h2.2⟩
    obtain ⟨x, hx, he⟩ := List.mem_map.1 hm
    exact List.mem_map.2 ⟨x, hr.mem x hx, he⟩
theorem Mem.pick {W w : World} {chg news news' : Blks} (h : Mem W chg news w) (hp : Pick news' news) : Mem W chg news' w :=
  { h with
    newd := fun b o hb => h.newd b o (hp.mem _ hb)
    once := by
      have := h.once
      simp only [List.map_append, List.nodup_append] at this ⊢
      refine ⟨this.1, hp.nodup this.2.1, fun x hx y hy => ?_⟩
      obtain ⟨z, hz, rfl⟩ := List.mem_map.1 hy
      exact this.2.2 x hx _ (List.mem_map.2 ⟨z, hp.mem z hz, rfl⟩) }

section
variable {P : Program} {ops : Array Oper} {Q : Exit → Act → World → Prop} {n : Nat} {r : Regs} {ds : List Deferred} {W : World} {chg news : Blks} {rest : List Oper}
variable {d : Nat}

/-! ### A part of a list of operations, both of whose ways meet again -/
def SegQ (Q : Exit → Act → World → Prop) (K : Act → World → Prop) : Exit → Act → World → Prop
  | .normal, a, w => K a w
  | e, a, w => Q e a w
theorem upon_seg {o : Oper} {a : Act} {K K' L : Act → World → Prop} (h : ∀ a w, K a w → K' a w) {x : Result Next} (hh : o.upon P a K (SegQ Q L) x) : o.upon P a K' Q x := by
  cases x with
  | ok nx w' =>
    cases nx <;> simp only [Oper.upon] at hh ⊢ <;>
      first
        | exact h _ _ hh
        | exact hh.mono (fun e w'' he => by cases e <;> first | exact h _ _ he | exact he)
        | exact Rows.mono hh (fun _ _ he => h _ _ he)
  | halt x w' => cases x <;> simp only [Oper.upon] at hh ⊢ <;> exact hh
theorem wpList_append {K : Act → World → Prop} {l2 : List Oper} (hK : ∀ a w, K a w → wpList P ops Q l2 a w) : ∀ (l : List Oper) (a : Act) (w : World), wpList P ops (SegQ Q K) l a w → wpList P ops Q (l ++ l2) a w
  | [], a, w, h => hK a w h
  | o :: l, a, w, h => by
    simp only [wpList, List.cons_append] at h ⊢
    split
    · rename_i hw
      rw [if_pos hw] at h
      rcases h with h | ⟨h1, h2⟩
      · exact .inl (upon_seg (wpList_append hK l) h)
      · exact .inr ⟨h1, h2⟩
    · rename_i hw
      rw [if_neg hw] at h
      exact wpList_append hK l _ _ h
/-- The first k operations lead to a state q, whichever way they go. -/
theorem RunL.part {l : List Oper} {q : Regs} (k : Nat) (h1 : RunL P ops (SegQ Q (St n q ds W chg news)) n (l.take k) r ds W chg news) (h2 : RunL P ops Q n (l.drop k) q ds W chg news) : RunL P ops Q n l r ds W chg news := by
  have h : RunL P ops Q n (l.take k ++ l.drop k) r ds W chg news := fun a w s => wpList_append h2 _ a w (h1 a w s)
  rwa [List.take_append_drop] at h
theorem RunL.segEnd {q : Regs} {news' : Blks} (hs : Sub q r) (hn : news'.Sublist news) : RunL P ops (SegQ Q (St n q ds W chg news')) n [] r ds W chg news := fun _ _ s => s.sub hs hn

theorem Sub.skip {q r : Regs} {d : Nat} {v : Value} (h : rget q d = none) (hs : Sub q r) : Sub q ((d, v) :: r) := by
  intro t u ht
  simp only [rget]
  split
  · rename_i he
    have := Nat.eq_of_beq_eq_true he
    subst this
    rw [h] at ht; cases ht
  · exact hs t u ht
theorem Sub.same {q r : Regs} {d : Nat} {u v : Value} (h : rget q d = some u) (he : u = v) (hs : Sub q r) : Sub q ((d, v) :: r) := by
  intro t u' ht
  simp only [rget]
  split
  · rename_i hb
    have := Nat.eq_of_beq_eq_true hb
    subst this
    rw [h] at ht; cases ht; rw [he]
  · exact hs t u' ht
theorem Agree.know {a : Act} {d : Nat} {u v : Value} (ha : Agree a r) (h : rget r d = some u) (he : u = v) : Agree a ((d, v) :: r) := by
  intro t u' ht
  simp only [rget] at ht
  split at ht
  · rename_i hb
    have := Nat.eq_of_beq_eq_true hb
    subst this
    cases ht
    rw [← he]; exact ha _ _ h
  · exact ha _ _ ht
theorem St.know {a : Act} {w : World} {d : Nat} {u v : Value} (s : St n r ds W chg news a w) (h : rget r d = some u) (he : u = v) : St n ((d, v) :: r) ds W chg news a w := ⟨s.size, s.agree.know h he, s.defers, s.mem⟩

/-- '&&': k operations, guarded by dj, the last of which writes dp. -/
theorem RunL.andPart {l : List Oper} {b x : Bool} {dj dp : Nat} (k : Nat) (hj : rget r dj = some (.bool b))
    (hyes : b = true → RunL P ops (SegQ Q (St n ((dp, .bool x) :: r) ds W chg news)) n (l.take k) ((dj, .bool true) :: r) ds W chg news)
    (hno : b = false → RunL P ops (SegQ Q (St n ((dp, .bool false) :: r) ds W chg news)) n (l.take k) ((dj, .bool false) :: r) ds W chg news)
    (h2 : RunL P ops Q n (l.drop k) ((dp, .bool (b && x)) :: r) ds W chg news) : RunL P ops Q n l r ds W chg news := by
  refine RunL.part k ?_ h2
  intro a w s
  cases b with
  | true => exact hyes rfl a w (s.know hj rfl)
  | false => exact hno rfl a w (s.know hj rfl)
/-- '||'. -/
theorem RunL.orPart {l : List Oper} {b x : Bool} {dj dp : Nat} (k : Nat) (hj : rget r dj = some (.bool b))
    (hyes : b = false → RunL P ops (SegQ Q (St n ((dp, .bool x) :: r) ds W chg news)) n (l.take k) ((dj, .bool false) :: r) ds W chg news)
    (hno : b = true → RunL P ops (SegQ Q (St n ((dp, .bool true) :: r) ds W chg news)) n (l.take k) ((dj, .bool true) :: r) ds W chg news)
    (h2 : RunL P ops Q n (l.drop k) ((dp, .bool (b || x)) :: r) ds W chg news) : RunL P ops Q n l r ds W chg news := by
  refine RunL.part k ?_ h2
  intro a w s
  cases b with
  | true => exact hno rfl a w (s.know hj rfl)
  | false => exact hyes rfl a w (s.know hj rfl)
/-- Both ways of a Bool. -/
theorem RunL.ways {l : List Oper} {b : Bool} {dj : Nat} (hj : rget r dj = some (.bool b)) (h1 : b = true → RunL P ops Q n l ((dj, .bool true) :: r) ds W chg news) (h2 : b = false → RunL P ops Q n l ((dj, .bool false) :: r) ds W chg news) : RunL P ops Q n l r ds W chg news := fun a w s => by
  cases b with
  | true => exact h1 rfl a w (s.know hj rfl)
  | false => exact h2 rfl a w (s.know hj rfl)

/-! ### A region that draws its order -/
def doneB (k : Nat) (listed : Array Bool) : Bool := (List.range k).all fun j => listed.getD j true
/-- In whatever order; and S holds behind each operation till the first k have come. -/
def wpT (P : Program) (ops : Array Oper) (Q : Exit → Act → World → Prop) (S : World → Prop) (k : Nat) : Nat → Array Bool → Act → World → Prop
  | 0, listed, a, w => Region.ready .any ops listed = [] ∧ Q .normal a w
  | fuel + 1, listed, a, w => (doneB k listed = true ∧ wpAny P .any ops Q (fuel + 1) listed a w) ∨ (doneB k listed = false ∧ (Region.ready .any ops listed = [] → Q .normal a w) ∧
      ∀ i ∈ Region.ready .any ops listed, wpOp P ops Q i (fun a' w' => S w' ∧ wpT P ops Q S k fuel (listed.setIfInBounds i true) a' w') a w)
theorem wpAny_of_T {S : World → Prop} {k : Nat} : ∀ (fuel : Nat) (listed : Array Bool) (a : Act) (w : World), wpT P ops Q S k fuel listed a w → wpAny P .any ops Q fuel listed a w
  | 0, _, _, _, h => h
  | _ + 1, _, _, _, .inl h => h.2
  | fuel + 1, _, _, _, .inr h => ⟨h.2.1, fun i hi => wpOp_mono (fun a' w' h' => wpAny_of_T fuel _ a' w' h'.2) (h.2.2 i hi)⟩

theorem notDone {k i : Nat} {listed : Array Bool} (hi : i < k) (h : listed.getD i true = false) : doneB k listed = false := by
  unfold doneB
  rw [Bool.eq_false_iff]
  intro hall
  have := List.all_eq_true.1 hall i (List.mem_range.2 hi)
  rw [h] at this
  cases this

/-- Whatever has come, all that it waits for has come. -/
def Closed (ops : Array Oper) (listed : Array Bool) : Prop := ∀ j o, ops[j]? = some o → listed.getD j false = true → ∀ e ∈ o.after, Region.binds .any e = true → listed.getD e.on false = true
theorem Closed.start {m : Nat} : Closed ops (Array.replicate m false) := fun j o _ h => by
  simp only [Array.getD_eq_getD_getElem?, Array.getElem?_replicate] at h
  split at h <;> simp at h
theorem Closed.step {listed : Array Bool} {i : Nat} (h : Closed ops listed) (hr : i ∈ Region.ready .any ops listed) : Closed ops (listed.setIfInBounds i true) := fun j o ho hj e he hb => by
  by_cases hji : i = j
  · subst hji
    obtain ⟨_, o', ho', hall⟩ := mem_ready.1 hr
    rw [ho] at ho'; cases ho'
    exact getD_set_true (hall e he hb)
  · rw [getD_set_ne false hji] at hj
    exact getD_set_true (h j o ho hj e he hb)
/-- All that an operation waits for, by bits, also through others. -/
def maskOf (acc : List Nat) (es : List Edge) : Nat := es.foldr (fun e s => bif Region.binds .any e then s ||| 2 ^ e.on ||| acc.getD e.on 0 else s) 0
def masks : List Oper → List Nat → List Nat
  | [], acc => acc
  | o :: l, acc => masks l (acc ++ [maskOf acc o.after.toList])
theorem maskOf_spec {acc : List Nat} {i : Nat} : ∀ {es : List Edge}, (maskOf acc es).testBit i = true → ∃ e ∈ es, Region.binds .any e = true ∧ (e.on = i ∨ (acc.getD e.on 0).testBit i = true)
  | [], h => by simp [maskOf] at h
  | e :: es, h => by
    simp only [maskOf, List.foldr_cons] at h
    cases hb : Region.binds .any e with
    | false =>
      rw [hb] at h
      obtain ⟨e', h1, h2⟩ := maskOf_spec (acc := acc) (es := es) h
      exact ⟨e', List.mem_cons_of_mem _ h1, h2⟩
    | true =>
      rw [hb] at h
      simp only [cond_true, Nat.testBit_or, Bool.or_eq_true, Nat.testBit_two_pow, decide_eq_true_eq] at h
      rcases h with (h | h) | h
      · obtain ⟨e', h1, h2⟩ := maskOf_spec (acc := acc) (es := es) h
        exact ⟨e', List.mem_cons_of_mem _ h1, h2⟩
      · exact ⟨e, by simp, hb, .inl h⟩
      · exact ⟨e, by simp, hb, .inr h⟩
theorem masks_spec {listed : Array Bool} (hc : Closed ops listed) : ∀ (l : List Oper) (acc : List Nat), (∀ j, l[j]? = ops[acc.length + j]?) →
    (∀ (j m : Nat) (o : Oper), acc[j]? = some m → ops[j]? = some o → (∀ e ∈ o.after, Region.binds .any e = true → listed.getD e.on false = true) → ∀ i, m.testBit i = true → listed.getD i false = true) →
    ∀ (j m : Nat) (o : Oper), (masks l acc)[j]? = some m → ops[j]? = some o → (∀ e ∈ o.after, Region.binds .any e = true → listed.getD e.on false = true) → ∀ i, m.testBit i = true → listed.getD i false = true
  | [], acc, _, h => h
  | o :: l, acc, hl, h => by
    refine masks_spec hc l (acc ++ [maskOf acc o.after.toList]) (fun j => by have := hl (j + 1); simpa [Nat.add_assoc, Nat.add_comm 1 j] using this) (fun j m o' hm ho' hall i hi => ?_)
    rw [List.getElem?_append] at hm
    split at hm
    · exact h j m o' hm ho' hall i hi
    · rename_i hlt
      have h0 := hl 0
      simp only [List.getElem?_cons_zero, Nat.add_zero] at h0
      have hj : j = acc.length := by
        have := (List.getElem?_eq_some_iff.1 hm).1
        simp at this; omega
      subst hj
      simp at hm
      rw [ho'] at h0; cases h0
      subst hm
      obtain ⟨e, he, hb, h2⟩ := maskOf_spec hi
      have he' : e ∈ o.after := Array.mem_def.2 he
      have hon := hall e he' hb
      rcases h2 with rfl | h2
      · exact hon
      · cases ha : acc[e.on]? with
        | none => simp [ha] at h2
        | some m2 =>
          cases hoe : ops[e.on]? with
          | none =>
            have h3 := hl 0
            have h4 := (List.getElem?_eq_some_iff.1 ha).1
            have h5 := (Array.getElem?_eq_some_iff.1 ho').1
            rw [Array.getElem?_eq_none_iff] at hoe
            omega
          | some o2 => exact h e.on m2 o2 ha hoe (hc e.on o2 hoe hon) i (by simpa [ha] using h2)
/-- Behind operation i, also through others. -/
def afterB (ops : Array Oper) (j i : Nat) : Bool := ((masks ops.toList []).getD j 0).testBit i
theorem afterB_spec {listed : Array Bool} {j i : Nat} {o : Oper} (hc : Closed ops listed) (ho : ops[j]? = some o) (hall : ∀ e ∈ o.after, Region.binds .any e = true → listed.getD e.on false = true) (h : afterB ops j i = true) : listed.getD i false = true := by
  unfold afterB at h
  cases hm : (masks ops.toList [])[j]? with
  | none => simp [hm] at h
  | some m => exact masks_spec hc ops.toList [] (by simp) (by simp) j m o hm ho hall i (by simpa [hm] using h)

theorem wpT_first {S : World → Prop} {k i : Nat} {oi : Oper} {v : Value} (hi : ops[i]? = some oi) (hik : i < k) (hsel : ∀ (j : Nat) (o : Oper) cs b, ops[j]? = some o → o.op ≠ .select cs b)
    (hQ : ∀ c a w, Q (.panic c) (a.put oi.dst v) w → Q (.panic c) a w)
    (htail : ∀ j oj, ops[j]? = some oj → k ≤ j → afterB ops j i = true)
    (hap : ∀ j oj, ops[j]? = some oj → j < k → j ≠ i → (∀ e ∈ oi.after, Region.binds .any e = true → e.on ≠ j) → (∀ e ∈ oj.after, Region.binds .any e = true → e.on ≠ i) → oi.apart ops oj = true) :
    ∀ (fuel : Nat) (listed : Array Bool) (a : Act) (w : World), Closed ops listed → i ∈ Region.ready .any ops listed → YieldsIf P ops S oi v a → S w →
      wpT P ops Q S k fuel (listed.setIfInBounds i true) (a.put oi.dst v) w → wpT P ops Q S k (fuel + 1) listed a w := by
  intro fuel
  induction fuel with
  | zero =>
    intro listed a w hcl hr hy hS H
    refine .inr ⟨notDone hik (mem_ready.1 hr).1, fun h => (by rw [h] at hr; cases hr), fun j hj => ?_⟩
    by_cases hji : j = i
    · subst hji; exact hy.wpOp hi hS ⟨hS, H⟩
    · have := ready_mono hj hji
      rw [H.1] at this
      cases this
  | succ fuel ih =>
    intro listed a w hcl hr hy hS H
    refine .inr ⟨notDone hik (mem_ready.1 hr).1, fun h => (by rw [h] at hr; cases hr), fun j hj => ?_⟩
    by_cases hji : j = i
    · subst hji; exact hy.wpOp hi hS ⟨hS, H⟩
    · obtain ⟨hjun, oj, hoj, hall⟩ := mem_ready.1 hj
      have hnot : ∀ e ∈ oj.after, Region.binds .any e = true → e.on ≠ i := fun e he hb heq => by
        have h1 := hall e he hb
        have h0 := (mem_ready.1 hr).1
        rw [heq] at h1
        rcases Nat.lt_or_ge i listed.size with h' | h'
        · simp [h'] at h0 h1; rw [h0] at h1; cases h1
        · simp [Array.getElem?_eq_none h'] at h1
      have hjk : j < k := by
        rcases Nat.lt_or_ge j k with h' | h'
        · exact h'
        · have h1 := afterB_spec hcl hoj hall (htail j oj hoj h')
          have h0 := (mem_ready.1 hr).1
          rcases Nat.lt_or_ge i listed.size with h' | h'
          · simp [h'] at h0 h1; rw [h0] at h1; cases h1
          · simp [Array.getElem?_eq_none h'] at h1
      have hun : (listed.setIfInBounds i true).getD j true = false := by rw [getD_set_ne true (Ne.symm hji)]; exact hjun
      rcases H with ⟨hd, _⟩ | ⟨_, _, H2⟩
      · rw [notDone hjk hun] at hd; cases hd
      · have h1 := H2 j (ready_mono hj hji)
        have hnot2 : ∀ e ∈ oi.after, Region.binds .any e = true → e.on ≠ j := fun e he hb heq => by
          obtain ⟨_, o', ho', hall'⟩ := mem_ready.1 hr
          rw [hi] at ho'; cases ho'
          have h1 := hall' e he hb
          rw [heq] at h1
          rcases Nat.lt_or_ge j listed.size with h' | h'
          · simp [h'] at hjun h1; rw [hjun] at h1; cases h1
          · simp [Array.getElem?_eq_none h'] at h1
        have h2 := wpOp_putIf hoj (hap j oj hoj hjk hji hnot2 hnot) (fun cs b => hsel i oi cs b hi) (fun cs b => hsel j oj cs b hoj) hQ hy h1
        refine wpOp_mono (fun a' w' h3 => ⟨h3.2.1, ih (listed.setIfInBounds j true) a' w' (hcl.step hj) (ready_mono hr (Ne.symm hji)) h3.1 h3.2.1 ?_⟩) h2
        rw [Array.setIfInBounds_comm _ _ hji]
        exact h3.2.2

/-- What is asked of the region's text, once an operation: it may be taken first whenever it may come. -/
def freeB (ops : Array Oper) (k i : Nat) : Bool :=
  Nat.blt i k && Region.noSelect ops && match ops[i]? with
  | none => false
  | some oi => (List.range ops.size).all fun j => j == i || match ops[j]? with
      | some oj => (bif Nat.ble k j then afterB ops j i else oj.after.any (fun e => Region.binds .any e && e.on == i) || ((oi.after.any (fun e => Region.binds .any e && e.on == j) || oi.apart ops oj)))
      | none => true
def readyB (ops : Array Oper) (listed : Array Bool) (i : Nat) : Bool :=
  !listed.getD i true && match ops[i]? with
  | some o => o.after.all fun e => !Region.binds .any e || listed.getD e.on false
  | none => false

/-- What the memory holds, but for what the blocks hold that are not as they were: that is one of some lists. -/
def MemK (W : World) (cp : Blks → Prop) (news : Blks) (w : World) : Prop := ∃ c : Blks, cp c ∧ Mem W c news w
theorem MemK.pick {W w : World} {cp : Blks → Prop} {news news' : Blks} (h : MemK W cp news w) (hp : Pick news' news) : MemK W cp news' w := by
  obtain ⟨c, hc, hm⟩ := h
  exact ⟨c, hc, hm.pick hp⟩
theorem notin_of {b : Nat} {c : Blks} {ks : List Nat} (hc : c.map (·.1) = ks) (h : b ∉ ks) : ∀ o, (b, o) ∉ c := fun o ho => h (by rw [← hc]; exact List.mem_map.2 ⟨_, ho, rfl⟩)
/-- A region in whatever order, from whatever meets a state; what the memory held at its beginning: chg0, news0. -/
def RunA (P : Program) (ops : Array Oper) (Q : Exit → Act → World → Prop) (k : Nat) (cp : Blks → Prop) (news0 : Blks) (n fuel : Nat) (listed : Array Bool) (r : Regs) (ds : List Deferred) (W : World) (chg news : Blks) : Prop :=
  ∀ a w, St n r ds W chg news a w → Closed ops listed → wpT P ops Q (MemK W cp news0) k fuel listed a w
/-- Behind the first k operations. -/
def RunB (P : Program) (ops : Array Oper) (Q : Exit → Act → World → Prop) (n fuel : Nat) (listed : Array Bool) (r : Regs) (ds : List Deferred) (W : World) (chg news : Blks) : Prop :=
  ∀ a w, St n r ds W chg news a w → wpAny P .any ops Q fuel listed a w

variable {k fuel : Nat} {listed : Array Bool} {cp : Blks → Prop} {chg0 news0 : Blks}

theorem St.drew {a : Act} {w : World} (s : St n r ds W chg news a w) : St n r ds W chg news a { w with drawn := w.drawn + 1 } := ⟨s.size, s.agree, s.defers, s.mem.drew⟩
theorem RunC.draw {id : Nat} {l : List Oper} {news0 : Blks} (k : Nat) (hm : P.follows .mixedOrders = true) (_hp : Pick news0 news) (h : RunA P l.toArray Q k (fun c => c = chg) news0 n l.toArray.size (Array.replicate l.toArray.size false) r ds W chg news) : RunC P Q n (.region id l.toArray true) r ds W chg news := fun a _ s =>
  wp_region_any hm (wpAny_of_T _ _ _ _ (h a _ s.drew Closed.start))
theorem RunC.drawK {id : Nat} {l : List Oper} {news0 : Blks} (k : Nat) (hm : P.follows .mixedOrders = true) (_hp : Pick news0 news) (h : RunA P l.toArray Q k (fun c => c.map (·.1) = chg.map (·.1)) news0 n l.toArray.size (Array.replicate l.toArray.size false) r ds W chg news) : RunC P Q n (.region id l.toArray true) r ds W chg news := fun a _ s =>
  wp_region_any hm (wpAny_of_T _ _ _ _ (h a _ s.drew Closed.start))
/-- The region does not panic: whatever the post says of a panic. -/
def NoPan (Q : Exit → Act → World → Prop) : Exit → Act → World → Prop
  | .panic _, _, _ => False
  | e, a, w => Q e a w
theorem NoPan.imp {Q : Exit → Act → World → Prop} : ∀ (e : Exit) (a : Act) (w : World), NoPan Q e a w → Q e a w := fun e a w h => by
  cases e <;> first | exact h | exact (h : False).elim
theorem RunC.drawN {id : Nat} {l : List Oper} {news0 : Blks} (k : Nat) (hm : P.follows .mixedOrders = true) (_hp : Pick news0 news) (h : RunA P l.toArray (NoPan Q) k (fun c => c = chg) news0 n l.toArray.size (Array.replicate l.toArray.size false) r ds W chg news) : RunC P Q n (.region id l.toArray true) r ds W chg news := fun a _ s =>
  Code.wp_mono NoPan.imp (wp_region_any hm (wpAny_of_T _ _ _ _ (h a _ s.drew Closed.start)))
theorem RunE.noPan (h : RunE Q n .normal r ds W chg news) : RunE (NoPan Q) n .normal r ds W chg news := h

/-- An operation that hands back a value, or is passed over, is taken first. -/
theorem RunA.first {i : Nat} {o : Oper} {v : Value} (ho : ops[i]? = some o) (hf : freeB ops k i = true) (hr : readyB ops listed i = true) (hy : ∀ a w, St n r ds W chg news a w → YieldsIf P ops (MemK W cp news0) o v a) (hd : o.dst = some d) (hn : Nat.ble (d + 1) n = true)
    (hQ : ∀ c a w, Q (.panic c) (a.put o.dst v) w → Q (.panic c) a w) (hs : Pick news0 news) (hc : cp chg)
    (h : RunA P ops Q k cp news0 n fuel (listed.setIfInBounds i true) ((d, v) :: r) ds W chg news) : RunA P ops Q k cp news0 n (fuel + 1) listed r ds W chg news := fun a w s hcl => by
  unfold freeB at hf
  simp only [ho, Bool.and_eq_true, List.all_eq_true, List.mem_range] at hf
  obtain ⟨⟨hik, hsel⟩, hall⟩ := hf
  have hik' : i < k := by have : i + 1 ≤ k := by simpa [Nat.blt] using hik
                          omega
  unfold readyB at hr
  simp only [ho, Bool.and_eq_true, Bool.not_eq_true', Array.all_eq_true_iff_forall_mem, Bool.or_eq_true] at hr
  have spec : ∀ j oj, ops[j]? = some oj → j ≠ i → (k ≤ j ∧ afterB ops j i = true) ∨ (j < k ∧ ((∃ e ∈ oj.after, Region.binds .any e = true ∧ e.on = i) ∨ (∃ e ∈ o.after, Region.binds .any e = true ∧ e.on = j) ∨ o.apart ops oj = true)) := fun j oj hj hne => by
    have h1 := hall j (Array.getElem?_eq_some_iff.1 hj).1
    simp only [hj, Bool.or_eq_true, beq_iff_eq, hne, false_or] at h1
    cases hk : Nat.ble k j with
    | true =>
      rw [hk] at h1
      exact .inl ⟨Nat.le_of_ble_eq_true hk, h1⟩
    | false =>
      rw [hk] at h1
      have hlt : j < k := by
        rcases Nat.lt_or_ge j k with h' | h'
        · exact h'
        · rw [Nat.ble_eq_true_of_le h'] at hk; cases hk
      simp only [cond_false, Bool.or_eq_true] at h1
      refine .inr ⟨hlt, ?_⟩
      rcases h1 with h1 | h1 | h1
      · obtain ⟨e, he, hb⟩ := Array.any_eq_true'.1 h1
        simp only [Bool.and_eq_true, beq_iff_eq] at hb
        exact .inl ⟨e, he, hb⟩
      · obtain ⟨e, he, hb⟩ := Array.any_eq_true'.1 h1
        simp only [Bool.and_eq_true, beq_iff_eq] at hb
        exact .inr (.inl ⟨e, he, hb⟩)
      · exact .inr (.inr h1)
  have hready : i ∈ Region.ready .any ops listed := mem_ready.2 ⟨hr.1, o, ho, fun e he hb => by
    rcases hr.2 e he with h1 | h1
    · rw [hb] at h1; cases h1
    · exact h1⟩
  refine wpT_first ho hik' (Region.noSelect_spec hsel) hQ (fun j oj hj hkj => ?_) (fun j oj hj hjk hne hno2 hno => ?_) fuel listed a w hcl hready (hy a w s) ⟨chg, hc, s.mem.pick hs⟩ ?_
  · rcases spec j oj hj (by omega) with h1 | h1
    · exact h1.2
    · omega
  · rcases spec j oj hj hne with h1 | ⟨_, ⟨e, he, hb, heq⟩ | ⟨e, he, hb, heq⟩ | h2⟩
    · omega
    · exact absurd heq (hno e he hb)
    · exact absurd heq (hno2 e he hb)
    · exact h2
  · rw [hd]
    exact h _ _ (s.put (Nat.le_of_ble_eq_true hn) v) (hcl.step hready)
theorem RunA.valC {i : Nat} {o : Oper} {v : Value} (ho : ops[i]? = some o) (hf : freeB ops k i = true) (hr : readyB ops listed i = true) (hv : ∀ c : Blks, cp c → Val P r W c news0 o v) (hg : guardB ops r o.guard = some true) (hd : o.dst = some d) (hn : Nat.ble (d + 1) n = true)
    (hQ : ∀ c a w, Q (.panic c) (a.put o.dst v) w → Q (.panic c) a w) (hs : Pick news0 news) (hc : cp chg)
    (h : RunA P ops Q k cp news0 n fuel (listed.setIfInBounds i true) ((d, v) :: r) ds W chg news) : RunA P ops Q k cp news0 n (fuel + 1) listed r ds W chg news :=
  RunA.first ho hf hr (fun a _ s => .inl ⟨guardB_spec s.agree hg, fun w' hw' => by
    obtain ⟨c, hcc, hm⟩ := hw'
    exact (hv c hcc).run a w' s.agree hm⟩) hd hn hQ hs hc h
theorem RunA.val {i : Nat} {o : Oper} {v : Value} (ho : ops[i]? = some o) (hf : freeB ops k i = true) (hr : readyB ops listed i = true) (hv : Val P r W chg0 news0 o v) (hg : guardB ops r o.guard = some true) (hd : o.dst = some d) (hn : Nat.ble (d + 1) n = true)
    (hQ : ∀ c a w, Q (.panic c) (a.put o.dst v) w → Q (.panic c) a w) (hs : Pick news0 news) (hc : chg = chg0)
    (h : RunA P ops Q k (fun c => c = chg0) news0 n fuel (listed.setIfInBounds i true) ((d, v) :: r) ds W chg news) : RunA P ops Q k (fun c => c = chg0) news0 n (fuel + 1) listed r ds W chg news :=
  RunA.valC ho hf hr (fun c hcc => by subst hcc; exact hv) hg hd hn hQ hs hc h
theorem RunA.no {i : Nat} {o : Oper} (ho : ops[i]? = some o) (hf : freeB ops k i = true) (hr : readyB ops listed i = true) (hg : guardB ops r o.guard = some false) (hd : o.dst = some d) (hn : Nat.ble (d + 1) n = true)
    (hQ : ∀ c a w, Q (.panic c) (a.put o.dst undef) w → Q (.panic c) a w) (hs : Pick news0 news) (hc : cp chg)
    (h : RunA P ops Q k cp news0 n fuel (listed.setIfInBounds i true) ((d, undef) :: r) ds W chg news) : RunA P ops Q k cp news0 n (fuel + 1) listed r ds W chg news :=
  RunA.first ho hf hr (fun _ _ s => .inr ⟨guardB_spec s.agree hg, rfl⟩) hd hn hQ hs hc h

theorem wpT_mono {S S' : World → Prop} (h : ∀ w, S' w → S w) : ∀ (fuel : Nat) (listed : Array Bool) (a : Act) (w : World), wpT P ops Q S' k fuel listed a w → wpT P ops Q S k fuel listed a w
  | 0, _, _, _, hh => hh
  | _ + 1, _, _, _, .inl hh => .inl hh
  | fuel + 1, _, _, _, .inr ⟨h1, h2, h3⟩ => .inr ⟨h1, h2, fun i hi => wpOp_mono (fun a' w' h' => ⟨h w' h'.1, wpT_mono h fuel _ a' w' h'.2⟩) (h3 i hi)⟩
/-- From here on more is held. -/
theorem RunA.base {news1 : Blks} (hs : Pick news0 news1) (h : RunA P ops Q k cp news1 n fuel listed r ds W chg news) : RunA P ops Q k cp news0 n fuel listed r ds W chg news := fun a w s hcl =>
  wpT_mono (fun w hw => hw.pick hs) fuel listed a w (h a w s hcl)

/-- One operation, by its number; K: what is behind it. -/
def RunI (P : Program) (ops : Array Oper) (Q : Exit → Act → World → Prop) (n i : Nat) (K : Act → World → Prop) (r : Regs) (ds : List Deferred) (W : World) (chg news : Blks) : Prop :=
  ∀ a w, St n r ds W chg news a w → wpOp P ops Q i K a w
/-- What is behind it: what is held, and the rest in whatever order. -/
def NextA (P : Program) (ops : Array Oper) (Q : Exit → Act → World → Prop) (k : Nat) (W : World) (cp : Blks → Prop) (news0 : Blks) (fuel : Nat) (listed : Array Bool) (a : Act) (w : World) : Prop :=
  MemK W cp news0 w ∧ (Closed ops listed → wpT P ops Q (MemK W cp news0) k fuel listed a w)
/-- A state leads to K. -/
def RunK (n : Nat) (K : Act → World → Prop) (r : Regs) (ds : List Deferred) (W : World) (chg news : Blks) : Prop := ∀ a w, St n r ds W chg news a w → K a w
theorem RunK.toA {news1 : Blks} (hp : Pick news1 news) (hs : Pick news0 news1) (hc : cp chg) (h : RunA P ops Q k cp news1 n fuel listed r ds W chg news) : RunK n (NextA P ops Q k W cp news0 fuel listed) r ds W chg news := fun a w s =>
  ⟨⟨chg, hc, (s.mem.pick hp).pick hs⟩, RunA.base hs h a w s⟩
theorem RunK.toB (h : RunB P ops Q n fuel listed r ds W chg news) : RunK n (wpAny P .any ops Q fuel listed) r ds W chg news := h

variable {K : Act → World → Prop} {i : Nat}
theorem RunI.val {o : Oper} {v : Value} (ho : ops[i]? = some o) (hv : Val P r W chg news o v) (hg : guardB ops r o.guard = some true) (hd : o.dst = some d) (hn : Nat.ble (d + 1) n = true) (h : RunK n K ((d, v) :: r) ds W chg news) : RunI P ops Q n i K r ds W chg news := fun a w s => by
  unfold wpOp
  simp only [ho, guardB_spec s.agree hg, if_true, Oper.wp, hv.run a w s.agree s.mem, Oper.upon_value, hd]
  exact .inl (h _ _ (s.put (Nat.le_of_ble_eq_true hn) v))
theorem RunI.no {o : Oper} (ho : ops[i]? = some o) (hg : guardB ops r o.guard = some false) (hd : o.dst = some d) (hn : Nat.ble (d + 1) n = true) (h : RunK n K ((d, undef) :: r) ds W chg news) : RunI P ops Q n i K r ds W chg news := fun a w s => by
  unfold wpOp
  simp only [ho, guardB_spec s.agree hg, Bool.false_eq_true, if_false, hd]
  exact h _ _ (s.put (Nat.le_of_ble_eq_true hn) undef)
theorem RunI.new {o : Oper} {v : Nat → Value} {ob : Obj} (ho : ops[i]? = some o) (hv : New P r W chg news o v ob) (hg : guardB ops r o.guard = some true) (hd : o.dst = some d) (hn : Nat.ble (d + 1) n = true) (h : ∀ b, RunK n K ((d, v b) :: r) ds W chg ((b, ob) :: news)) : RunI P ops Q n i K r ds W chg news := fun a w s => by
  unfold wpOp
  simp only [ho, guardB_spec s.agree hg, if_true, Oper.wp, hv.run a w s.agree s.mem, Oper.upon_value, hd]
  have s2 := s.put (Nat.le_of_ble_eq_true hn) (v w.heap.size)
  exact .inl (h _ _ _ ⟨s2.size, s2.agree, s2.defers, s.mem.alloc ob⟩)
theorem RunI.sto {o : Oper} {chg' news' : Blks} (ho : ops[i]? = some o) (hv : Sto P r W chg news o chg' news') (hg : guardB ops r o.guard = some true) (hd : o.dst = none) (h : RunK n K r ds W chg' news') : RunI P ops Q n i K r ds W chg news := fun a w s => by
  obtain ⟨w', h1, h2⟩ := hv.run a w s.agree s.mem
  unfold wpOp
  simp only [ho, guardB_spec s.agree hg, if_true, Oper.wp, h1, Oper.upon_skip, hd]
  exact .inl (h _ _ ⟨s.size, s.agree, s.defers, h2⟩)
theorem RunI.call {o : Oper} {f : FuncId} {args : Array Value} {R : World → Ending → World → Prop} (ho : ops[i]? = some o) (hi : IsCall P r o f args) (hg : guardB ops r o.guard = some true)
    (hc : ∀ w, Mem W chg news w → Calls P f args w (R w))
    (hk : ∀ a w e w', St n r ds W chg news a w → R w e w' → match e with | .returned v => K (a.put o.dst v) w' | .panicked c => Q (.panic c) a w' | .outgrown => LetsOut Q) : RunI P ops Q n i K r ds W chg news := fun a w s => by
  unfold wpOp
  simp only [ho, guardB_spec s.agree hg, if_true, Oper.wp, hi.runs a w s.agree, Oper.upon_enter]
  refine .inl ((hc w s.mem).mono fun e w' hR => ?_)
  have := hk a w e w' s hR
  cases e with
  | returned v => exact this
  | panicked c => exact this
  | outgrown => exact this
theorem RunI.callP {o : Oper} {f : FuncId} {args : Array Value} {v : Value} (ho : ops[i]? = some o) (hi : IsCall P r o f args) (hg : guardB ops r o.guard = some true) (hd : o.dst = some d) (hn : Nat.ble (d + 1) n = true)
    (hc : ∀ w, Mem W chg news w → Calls P f args w (Pure v w)) (h : RunK n K ((d, v) :: r) ds W chg news) : RunI P ops Q n i K r ds W chg news :=
  RunI.call ho hi hg hc (fun a w e w' s hR => by
    obtain ⟨rfl, hm⟩ := hR
    have s2 := s.put (Nat.le_of_ble_eq_true hn) v
    simp only [hd]
    exact h _ _ ⟨s2.size, s2.agree, s2.defers, s.mem.pass hm⟩)
theorem RunI.callT {o : Oper} {f : FuncId} {args : Array Value} {mis : Int → Value} {x : Except Int Value} (ho : ops[i]? = some o) (hi : IsCall P r o f args) (hg : guardB ops r o.guard = some true) (hd : o.dst = some d) (hn : Nat.ble (d + 1) n = true)
    (hc : ∀ w, Mem W chg news w → Calls P f args w (Try mis x w)) (herr : ∀ k, x = .error k → RunE Q n (.panic [{ v := mis k, recovered := false }]) r ds W chg news)
    (hok : ∀ v, x = .ok v → RunK n K ((d, v) :: r) ds W chg news) : RunI P ops Q n i K r ds W chg news :=
  RunI.call ho hi hg hc (fun a w e w' s hR => by
    obtain ⟨he, hm⟩ := hR
    cases x with
    | ok v =>
      subst he
      have s2 := s.put (Nat.le_of_ble_eq_true hn) v
      simp only [hd]
      exact hok v rfl _ _ ⟨s2.size, s2.agree, s2.defers, s.mem.pass hm⟩
    | error k =>
      subst he
      exact herr k rfl a w' ⟨s.size, s.agree, s.defers, s.mem.pass hm⟩)
theorem RunI.callN {β : Type} {o : Oper} {f : FuncId} {args : Array Value} {v : β → Value} {nw : β → Blks} (ho : ops[i]? = some o) (hi : IsCall P r o f args) (hg : guardB ops r o.guard = some true) (hd : o.dst = some d) (hn : Nat.ble (d + 1) n = true)
    (hc : ∀ w, Mem W chg news w → Calls P f args w (News v nw w)) (h : ∀ b, RunK n K ((d, v b) :: r) ds W chg (nw b ++ news)) : RunI P ops Q n i K r ds W chg news :=
  RunI.call ho hi hg hc (fun a w e w' s hR => by
    obtain ⟨b, rfl, hm⟩ := hR
    have s2 := s.put (Nat.le_of_ble_eq_true hn) (v b)
    simp only [hd]
    exact h b _ _ ⟨s2.size, s2.agree, s2.defers, s.mem.trans hm⟩)

/-- Those that may come, each of them. -/
theorem RunA.all {rs : List Nat} (hr : Region.ready .any ops listed = rs) (hne : rs ≠ []) (hd : doneB k listed = false) (h : ∀ i ∈ rs, RunI P ops Q n i (NextA P ops Q k W cp news0 fuel (listed.setIfInBounds i true)) r ds W chg news) :
    RunA P ops Q k cp news0 n (fuel + 1) listed r ds W chg news := fun a w s hcl => .inr ⟨hd, fun h0 => absurd (hr ▸ h0) hne, fun i hi => wpOp_mono (fun _ _ hx => ⟨hx.1, hx.2 (hcl.step hi)⟩) (h i (hr ▸ hi) a w s)⟩
theorem RunA.one {i : Nat} (hr : Region.ready .any ops listed = [i]) (hd : doneB k listed = false) (h : RunI P ops Q n i (NextA P ops Q k W cp news0 fuel (listed.setIfInBounds i true)) r ds W chg news) :
    RunA P ops Q k cp news0 n (fuel + 1) listed r ds W chg news := RunA.all hr (by simp) hd (fun j hj => (List.mem_singleton.1 hj) ▸ h)
theorem RunA.toB (hd : doneB k listed = true) (h : RunB P ops Q n (fuel + 1) listed r ds W chg news) : RunA P ops Q k cp news0 n (fuel + 1) listed r ds W chg news := fun a w s _ => .inl ⟨hd, h a w s⟩
theorem RunB.one {i : Nat} (hr : Region.ready .any ops listed = [i]) (h : RunI P ops Q n i (wpAny P .any ops Q fuel (listed.setIfInBounds i true)) r ds W chg news) : RunB P ops Q n (fuel + 1) listed r ds W chg news := fun a w s =>
  wpAny_all hr (by simp) (fun j hj => by obtain rfl : j = i := by simpa using hj
                                         exact h a w s)
theorem RunA.done (hr : Region.ready .any ops listed = []) (h : RunE Q n .normal r ds W chg news) : RunA P ops Q k cp news0 n 0 listed r ds W chg news := fun a w s _ => ⟨hr, h a w s⟩
theorem RunB.done (hr : Region.ready .any ops listed = []) (h : RunE Q n .normal r ds W chg news) : RunB P ops Q n fuel listed r ds W chg news := fun a w s => wpAny_done hr (h a w s) fuel
theorem RunA.ways {b : Bool} {dj : Nat} (hj : rget r dj = some (.bool b)) (h1 : b = true → RunA P ops Q k cp news0 n fuel listed ((dj, .bool true) :: r) ds W chg news) (h2 : b = false → RunA P ops Q k cp news0 n fuel listed ((dj, .bool false) :: r) ds W chg news) :
    RunA P ops Q k cp news0 n fuel listed r ds W chg news := fun a w s hcl => by
  cases b with
  | true => exact h1 rfl a w (s.know hj rfl) hcl
  | false => exact h2 rfl a w (s.know hj rfl) hcl

/-! ### Ways through a region that meet again -/
theorem St.pick {q r : Regs} {news' : Blks} {a : Act} {w : World} (h : St n r ds W chg news a w) (hs : Sub q r) (hn : Pick news' news) : St n q ds W chg news' a w := ⟨h.size, h.agree.sub hs, h.defers, h.mem.pick hn⟩
theorem RunC.drawJ {id : Nat} {l : List Oper} {news0 : Blks} {J : Act → World → Prop} (k : Nat) (hm : P.follows .mixedOrders = true) (_hp : Pick news0 news) (h : RunA P l.toArray (SegQ Q J) k (fun c => c = chg) news0 n l.toArray.size (Array.replicate l.toArray.size false) r ds W chg news) (h2 : ∀ a w, J a w → Q .normal a w) :
    RunC P Q n (.region id l.toArray true) r ds W chg news := fun a _ s =>
  Code.wp_mono (fun e a w hq => by cases e <;> first | exact h2 a w hq | exact hq) (wp_region_any hm (wpAny_of_T _ _ _ _ (h a _ s.drew Closed.start)))
theorem RunC.drawNJ {id : Nat} {l : List Oper} {news0 : Blks} {J : Act → World → Prop} (k : Nat) (hm : P.follows .mixedOrders = true) (_hp : Pick news0 news) (h : RunA P l.toArray (NoPan (SegQ Q J)) k (fun c => c = chg) news0 n l.toArray.size (Array.replicate l.toArray.size false) r ds W chg news) (h2 : ∀ a w, J a w → Q .normal a w) :
    RunC P Q n (.region id l.toArray true) r ds W chg news := fun a _ s =>
  Code.wp_mono (fun e a w hq => by cases e <;> first | exact h2 a w hq | exact hq | exact (hq : False).elim) (wp_region_any hm (wpAny_of_T _ _ _ _ (h a _ s.drew Closed.start)))
def J0 (n : Nat) (q : Regs) (nw : Blks) (ds : List Deferred) (W : World) (chg : Blks) (a : Act) (w : World) : Prop := St n q ds W chg nw a w
def J1 (n : Nat) (q : Nat → Regs) (nw : Nat → Blks) (ds : List Deferred) (W : World) (chg : Blks) (a : Act) (w : World) : Prop := ∃ x, St n (q x) ds W chg (nw x) a w
def J2 (n : Nat) (q : Nat → Nat → Regs) (nw : Nat → Nat → Blks) (ds : List Deferred) (W : World) (chg : Blks) (a : Act) (w : World) : Prop := ∃ x y, St n (q x y) ds W chg (nw x y) a w
def J3 (n : Nat) (q : Nat → Nat → Nat → Regs) (nw : Nat → Nat → Nat → Blks) (ds : List Deferred) (W : World) (chg : Blks) (a : Act) (w : World) : Prop := ∃ x y z, St n (q x y z) ds W chg (nw x y z) a w
def J4 (n : Nat) (q : Nat → Nat → Nat → Nat → Regs) (nw : Nat → Nat → Nat → Nat → Blks) (ds : List Deferred) (W : World) (chg : Blks) (a : Act) (w : World) : Prop := ∃ x y z t, St n (q x y z t) ds W chg (nw x y z t) a w
theorem RunE.join0 {q : Regs} {nw : Blks} (hs : Sub q r) (hn : Pick nw news) : RunE (SegQ Q (J0 n q nw ds W chg)) n .normal r ds W chg news := fun _ _ s => s.pick hs hn
theorem RunE.join1 {q : Nat → Regs} {nw : Nat → Blks} (x : Nat) (hs : Sub (q x) r) (hn : Pick (nw x) news) : RunE (SegQ Q (J1 n q nw ds W chg)) n .normal r ds W chg news := fun _ _ s => ⟨x, s.pick hs hn⟩
theorem RunE.join2 {q : Nat → Nat → Regs} {nw : Nat → Nat → Blks} (x y : Nat) (hs : Sub (q x y) r) (hn : Pick (nw x y) news) : RunE (SegQ Q (J2 n q nw ds W chg)) n .normal r ds W chg news := fun _ _ s => ⟨x, y, s.pick hs hn⟩
theorem RunE.join3 {q : Nat → Nat → Nat → Regs} {nw : Nat → Nat → Nat → Blks} (x y z : Nat) (hs : Sub (q x y z) r) (hn : Pick (nw x y z) news) : RunE (SegQ Q (J3 n q nw ds W chg)) n .normal r ds W chg news := fun _ _ s => ⟨x, y, z, s.pick hs hn⟩
theorem RunE.join4 {q : Nat → Nat → Nat → Nat → Regs} {nw : Nat → Nat → Nat → Nat → Blks} (x y z t : Nat) (hs : Sub (q x y z t) r) (hn : Pick (nw x y z t) news) : RunE (SegQ Q (J4 n q nw ds W chg)) n .normal r ds W chg news := fun _ _ s => ⟨x, y, z, t, s.pick hs hn⟩
theorem J0.out {q : Regs} {nw : Blks} (h : RunE Q n .normal q ds W chg nw) : ∀ a w, J0 n q nw ds W chg a w → Q .normal a w := fun a w s => h a w s
theorem J1.out {q : Nat → Regs} {nw : Nat → Blks} (h : ∀ x, RunE Q n .normal (q x) ds W chg (nw x)) : ∀ a w, J1 n q nw ds W chg a w → Q .normal a w := fun a w ⟨x, s⟩ => h x a w s
theorem J2.out {q : Nat → Nat → Regs} {nw : Nat → Nat → Blks} (h : ∀ x y, RunE Q n .normal (q x y) ds W chg (nw x y)) : ∀ a w, J2 n q nw ds W chg a w → Q .normal a w := fun a w ⟨x, y, s⟩ => h x y a w s
theorem J3.out {q : Nat → Nat → Nat → Regs} {nw : Nat → Nat → Nat → Blks} (h : ∀ x y z, RunE Q n .normal (q x y z) ds W chg (nw x y z)) : ∀ a w, J3 n q nw ds W chg a w → Q .normal a w := fun a w ⟨x, y, z, s⟩ => h x y z a w s
theorem J4.out {q : Nat → Nat → Nat → Nat → Regs} {nw : Nat → Nat → Nat → Nat → Blks} (h : ∀ x y z t, RunE Q n .normal (q x y z t) ds W chg (nw x y z t)) : ∀ a w, J4 n q nw ds W chg a w → Q .normal a w := fun a w ⟨x, y, z, t, s⟩ => h x y z t a w s
end
end Go.Eng
