/- The engine: slices that the function makes by append. No program is in sight. -/
import Derived.Test.YthoheicppmbepaaMore2
import Derived.ArgAppend
namespace Go.Eng
open Go Go.RowKit

/-- A slice of the function's own: none, or its block, its capacity, and the cells behind its elements. -/
abbrev Own := Option (Nat × Nat × List Value)
def ownV (x : Own) (n : Nat) : Value := match x with
  | none => .slice none 0 0
  | some (b, c, _) => .slice (some ⟨b, 0, none⟩) n c
def ownB (e : TypeId) (x : Own) (xs : List Value) : Blks := match x with
  | none => []
  | some (b, _, r) => [(b, .cells (xs ++ r).toArray e (0, 0))]
def ownRow (x : Own) : Option Nat := match x with
  | none => none
  | some (b, _, _) => some b
structure OwnOk (sz : Nat) (x : Own) (n : Nat) (xs : List Value) : Prop where
  len : xs.length = n * sz
  nil : x = none → n = 0
  cap : ∀ b c r, x = some (b, c, r) → n ≤ c ∧ c ≤ maxLen ∧ (xs ++ r).length = c * sz
theorem OwnOk.start {sz : Nat} : OwnOk sz none 0 [] := ⟨by simp, fun _ => rfl, fun _ _ _ h => by cases h⟩
theorem OwnOk.has {sz : Nat} {x : Own} {n : Nat} {xs : List Value} (h : OwnOk sz x n xs) (hn : 0 < n) : ∃ b c r, x = some (b, c, r) ∧ n ≤ c ∧ c ≤ maxLen ∧ (xs ++ r).length = c * sz := by
  match x, h with
  | .none, h => have := h.nil rfl; omega
  | .some (b, c, r), h => exact ⟨b, c, r, rfl, h.cap b c r rfl⟩
theorem OwnOk.owns {sz : Nat} {x : Own} {n : Nat} {xs : List Value} {e : TypeId} {w : World} {base : Nat} (h : OwnOk sz x n xs) (hm : ∀ b o, (b, o) ∈ ownB e x xs → base ≤ b ∧ w.heap[b]? = some o) : w.ownsRow base e sz (ownV x n) n xs := by
  match x, h with
  | .none, h => exact ⟨h.len, .inl ⟨rfl, h.nil rfl⟩⟩
  | .some (b, c, r), h =>
    obtain ⟨h1, h2⟩ := hm b (.cells (xs ++ r).toArray e (0, 0)) (by simp [ownB])
    obtain ⟨c1, c2, c3⟩ := h.cap b c r rfl
    exact ⟨h.len, .inr ⟨b, c, _, rfl, h1, h2, c1, c2, by simpa using c3, by simp [← h.len]⟩⟩

/-- One block among the new ones is another, or lies elsewhere. -/
theorem Mem.swap {W w w' : World} {chg A B : Blks} {e : TypeId} {x y : Own} {xs ys : List Value} (h : Mem W chg (A ++ (ownB e x xs ++ B)) w) (hg : w.grownBy w' (ownRow x))
    (hy : ∀ b c r, y = some (b, c, r) → ((∃ c' r', x = some (b, c', r')) ∨ w.heap.size ≤ b) ∧ w'.heap[b]? = some (.cells (ys ++ r).toArray e (0, 0))) : Mem W chg (A ++ (ownB e y ys ++ B)) w' := by
  have hrow : ∀ k, (ownRow x) = some k → W.heap.size ≤ k ∧ (∀ o, (k, o) ∉ chg) ∧ (∀ o, (k, o) ∉ A) ∧ (∀ o, (k, o) ∉ B) := by
    intro k hk
    match x, hk with
    | .some (b, c, r), hk =>
      obtain rfl : b = k := Option.some.inj hk
      have h1 := h.once
      refine ⟨(h.newd b (.cells (xs ++ r).toArray e (0, 0)) (by simp [ownB])).1, fun o ho => ?_, fun o ho => ?_, fun o ho => ?_⟩
      all_goals
        simp only [ownB, List.map_append, List.map_cons, List.map_nil, List.nodup_append, List.mem_append, List.mem_map, List.mem_cons, List.not_mem_nil, or_false] at h1
      · exact h1.2.2 b ⟨_, ho, rfl⟩ b (.inr (.inl rfl)) rfl
      · exact h1.2.1.2.2 b ⟨_, ho, rfl⟩ b (.inl rfl) rfl
      · exact h1.2.1.2.1.2.2 b rfl b ⟨_, ho, rfl⟩ rfl
  have keep : ∀ k o, w.heap[k]? = some o → (ownRow x) ≠ some k → w'.heap[k]? = some o := fun k o hk hne => by rw [hg.block k (lt_of_block hk) (fun e => hne e.symm)]; exact hk
  refine ⟨hg.os.trans h.os, hg.tape.trans h.tape, hg.output.trans h.output, Nat.le_trans h.size hg.size, fun k hk hc => ?_, fun b o hb => ?_, fun b o hb => ?_, ?_⟩
  · rw [hg.block k (by have := h.size; omega) (fun e => by have := (hrow k e.symm).1; omega)]
    exact h.old k hk hc
  · have h1 := h.chgd b o hb
    exact ⟨h1.1, keep b o h1.2 (fun e => (hrow b e).2.1 o hb)⟩
  · rcases List.mem_append.1 hb with ha | hb
    · have h1 := h.newd b o (List.mem_append_left _ ha)
      exact ⟨h1.1, keep b o h1.2 (fun e => (hrow b e).2.2.1 o ha)⟩
    · rcases List.mem_append.1 hb with ho | hB
      · match y, ho with
        | .some (b', c', r'), ho =>
          simp only [ownB, List.mem_cons, List.not_mem_nil, or_false, Prod.mk.injEq] at ho
          obtain ⟨rfl, rfl⟩ := ho
          obtain ⟨h1, h2⟩ := hy b c' r' rfl
          refine ⟨?_, h2⟩
          rcases h1 with ⟨c, r, rfl⟩ | h1
          · exact (hrow b rfl).1
          · have := h.size; omega
      · have h1 := h.newd b o (List.mem_append_right _ (List.mem_append_right _ hB))
        exact ⟨h1.1, keep b o h1.2 (fun e => (hrow b e).2.2.2 o hB)⟩
  · have h1 := h.once
    have hlt : ∀ b o, (b, o) ∈ chg ++ (A ++ (ownB e x xs ++ B)) → b < w.heap.size := fun b o hb => h.lt_new hb
    match y with
    | .none =>
      refine h1.sublist ?_
      simp only [ownB, List.nil_append]
      exact ((List.Sublist.refl _).append ((List.Sublist.refl _).append (List.sublist_append_right _ _))).map _
    | .some (b', c', r') =>
      obtain ⟨h2, _⟩ := hy b' c' r' rfl
      have hne : (∀ o, (b', o) ∉ chg) ∧ (∀ o, (b', o) ∉ A) ∧ (∀ o, (b', o) ∉ B) := by
        rcases h2 with ⟨c, r, rfl⟩ | h2
        · exact (hrow b' rfl).2
        · refine ⟨fun o ho => ?_, fun o ho => ?_, fun o ho => ?_⟩
          · have := hlt b' o (List.mem_append_left _ ho); omega
          · have := hlt b' o (List.mem_append_right _ (List.mem_append_left _ ho)); omega
          · have := hlt b' o (List.mem_append_right _ (List.mem_append_right _ (List.mem_append_right _ ho))); omega
      have h3 : ((chg ++ (A ++ B)).map (·.1)).Nodup := h1.sublist (((List.Sublist.refl _).append ((List.Sublist.refl _).append (List.sublist_append_right _ _))).map _)
      simp only [ownB, List.map_append, List.map_cons, List.map_nil, List.nodup_append, List.mem_append, List.mem_map, List.mem_cons, List.not_mem_nil, or_false, List.nodup_cons, List.nodup_nil, not_false_eq_true, and_true, true_and] at h3 ⊢
      obtain ⟨a1, ⟨a2, a3, a4⟩, a5⟩ := h3
      refine ⟨a1, ⟨a2, ⟨a3, ?_⟩, ?_⟩, ?_⟩
      · rintro _ rfl z ⟨⟨k, o⟩, hk, rfl⟩ he
        exact hne.2.2 o (by rw [he]; exact hk)
      · rintro u ⟨⟨k, o⟩, hk, rfl⟩ z (rfl | hz) he
        · exact hne.2.1 o (by rw [← he]; exact hk)
        · exact a4 _ ⟨_, hk, rfl⟩ z hz he
      · rintro u ⟨⟨k, o⟩, hk, rfl⟩ z (hz | rfl | hz) he
        · exact a5 _ ⟨_, hk, rfl⟩ z (.inl hz) he
        · exact hne.1 o (by rw [← he]; exact hk)
        · exact a5 _ ⟨_, hk, rfl⟩ z (.inr hz) he

section
variable {P : Program} {ops : Array Oper} {Q : Exit → Act → World → Prop} {n : Nat} {r : Regs} {ds : List Deferred} {W : World} {chg news : Blks} {rest : List Oper}
variable {d : Nat} {ty : TypeId} {pos : String} {after : Array Edge} {dst : Option Tmp} {gd : Option (Nat × Bool)}

/-- What append asks of the tables: the element's type, its cells, its bytes. -/
def apB (P : Program) (T : TypeId) : Option (TypeId × Nat × Nat) :=
  match P.underlying T with
  | some (.slice e) => match P.info? e with
    | some i => match i.zero with
      | some z => if z.cells.size = i.size ∧ 0 < i.size then some (e, i.size, i.bytes) else none
      | none => none
    | none => none
  | _ => none
theorem apB_spec {T e : TypeId} {sz by_ : Nat} (h : apB P T = some (e, sz, by_)) : P.underlying T = some (.slice e) ∧ ∃ i z, P.info? e = some i ∧ i.zero = some z ∧ i.size = sz ∧ i.bytes = by_ ∧ z.cells.size = sz ∧ 0 < sz := by
  unfold apB at h
  split at h
  · rename_i e' hu
    split at h
    · rename_i i hi
      split at h
      · rename_i z hz
        split at h
        · rename_i hc
          cases h
          exact ⟨hu, i, z, hi, hz, rfl, rfl, hc.1, hc.2⟩
        · cases h
      · cases h
    · cases h
  · cases h
/-- What an append comes to. -/
theorem append_run {T e : TypeId} {sz by_ tt : Nat} (hT : apB P T = some (e, sz, by_)) {A B : Blks} {x : Own} {k m c : Nat} {q : Option Addr} {xs ys : List Value} {w : World} (hm : Mem W chg (A ++ (ownB e x xs ++ B)) w) (hx : OwnOk sz x k xs)
    (hy : ys.length = m * sz) (hq : q = none → m = 0 ∧ c = 0) (hc : ∀ j u, ys[j]? = some u → ∃ ad, q = some ad ∧ w.cell? (ad.add j) = some u) (h1 : ∀ u ∈ ys, u.oneCell' = true) (b1 : k + m ≤ maxLen) (b2 : (k + m) * by_ ≤ 140737488355328) :
    ∃ y w', (Builtin.append_ #[T, T] tt #[ownV x k, .slice q m c]).run P w = .ok (ownV y (k + m)) w' ∧ OwnOk sz y (k + m) (xs ++ ys) ∧ Mem W chg (A ++ (ownB e y (xs ++ ys) ++ B)) w' := by
  obtain ⟨hu, i, z, hi, hz, rfl, rfl, hzs, hsz⟩ := apB_spec hT
  have hown : w.ownsRow W.heap.size e i.size (ownV x k) k xs := hx.owns (fun b o hb => hm.newd b o (List.mem_append_right _ (List.mem_append_left _ hb)))
  have hlen : (xs ++ ys).length = (k + m) * i.size := by rw [List.length_append, hx.len, hy, Nat.add_mul]
  cases q with
  | none =>
    obtain ⟨rfl, rfl⟩ := hq rfl
    obtain rfl : ys = [] := List.eq_nil_of_length_eq_zero (by simpa using hy)
    refine ⟨x, w, ?_, ?_, ?_⟩
    · exact run_append_owned_none (P := P) w W.heap.size T tt e i i.size hu hi _ k xs hown
    · simpa using hx
    · simpa using hm
  | some ad =>
    have hc' : ∀ j u, ys[j]? = some u → w.cell? (ad.add j) = some u := fun j u h => by obtain ⟨ad', h2, h3⟩ := hc j u h; cases h2; exact h3
    match x, hx, hm, hown with
    | .none, hx, hm, hown =>
      have hk := hx.nil rfl
      subst hk
      obtain rfl : xs = [] := List.eq_nil_of_length_eq_zero (by simpa using hx.len)
      obtain ⟨v', w', hrun, ho, hg, hiff⟩ := run_append_own (P := P) w w.heap.size T tt e i z i.size i.bytes hu hi hz rfl rfl hzs hsz (.slice none 0 0) 0 [] (World.ownsRow_nil w _ e i.size) ad m c ys hy hc' h1 b1 b2 (Nat.le_refl _)
      rcases ho.2 with ⟨rfl, h0⟩ | ⟨g, cap, cur, rfl, hge, hgb, hnc, hcm, hcs, htk⟩
      · refine ⟨none, w', hrun, ⟨hlen, fun _ => h0, fun _ _ _ h => by cases h⟩, ?_⟩
        exact hm.swap hg (fun b c r h => by cases h)
      · refine ⟨.some (g, cap, cur.toList.drop ((0 + m) * i.size)), w', hrun, ⟨hlen, fun h => (by cases h), fun b c r h => ?_⟩, ?_⟩
        · cases h
          refine ⟨hnc, hcm, ?_⟩
          rw [← htk, List.take_append_drop]; simpa using hcs
        · refine hm.swap hg (fun b c r h => ?_)
          cases h
          refine ⟨.inr hge, ?_⟩
          rw [← htk, List.take_append_drop]; simpa using hgb
    | .some (b, cap, r), hx, hm, hown =>
      obtain ⟨c1, c2, c3⟩ := hx.cap b cap r rfl
      have hbb := (hm.newd b (.cells (xs ++ r).toArray e (0, 0)) (List.mem_append_right _ (List.mem_append_left _ (by simp [ownB])))).2
      by_cases hfit : k + m ≤ cap
      · obtain ⟨w', hrun, ho, hg⟩ := run_append_fits (P := P) w W.heap.size T tt e i i.size hu hi rfl b k cap xs hown ad m c ys hy hc' h1 hfit
        rcases ho.2 with ⟨h0, _⟩ | ⟨g, cap', cur, hv, hge, hgb, hnc, hcm, hcs, htk⟩
        · cases h0
        · cases hv
          refine ⟨.some (b, cap, cur.toList.drop ((k + m) * i.size)), w', hrun, ⟨hlen, fun h => (by cases h), fun b c r h => ?_⟩, ?_⟩
          · cases h
            refine ⟨hnc, hcm, ?_⟩
            rw [← htk, List.take_append_drop]; simpa using hcs
          · refine hm.swap hg (fun b c r h => ?_)
            cases h
            refine ⟨.inl ⟨_, _, rfl⟩, ?_⟩
            rw [← htk, List.take_append_drop]; simpa using hgb
      · have holds : ∀ j u, xs[j]? = some u → w.cell? ((⟨b, 0, none⟩ : Addr).add j) = some u := fun j u hj => by
          have hj' := (List.getElem?_eq_some_iff.1 hj).1
          rw [add_plain, cell_of_cells hbb]
          simp [List.getElem?_append_left hj', hj]
        obtain ⟨v', w', hrun, ho, hg⟩ := run_append_arg_grows (P := P) w T tt e i z i.size i.bytes hu hi hz rfl rfl hzs hsz ⟨b, 0, none⟩ k cap xs hx.len holds ad m c ys hy hc' (by omega) b1 b2
        have hg' : w.grownBy w' (some b) := ⟨hg.os, hg.tape, hg.output, hg.size, fun k hk _ => hg.block k hk (by simp)⟩
        rcases ho.2 with ⟨rfl, h0⟩ | ⟨g, cap', cur, rfl, hge, hgb, hnc, hcm, hcs, htk⟩
        · refine ⟨none, w', hrun, ⟨hlen, fun _ => h0, fun _ _ _ h => by cases h⟩, ?_⟩
          exact hm.swap hg' (fun b c r h => by cases h)
        · refine ⟨.some (g, cap', cur.toList.drop ((k + m) * i.size)), w', hrun, ⟨hlen, fun h => (by cases h), fun b c r h => ?_⟩, ?_⟩
          · cases h
            refine ⟨hnc, hcm, ?_⟩
            rw [← htk, List.take_append_drop]; simpa using hcs
          · refine hm.swap hg' (fun b c r h => ?_)
            cases h
            refine ⟨.inr hge, ?_⟩
            rw [← htk, List.take_append_drop]; simpa using hgb

/-- Append onto a slice of the function's own. -/
theorem RunL.append {s y : Operand} {T e : TypeId} {sz by_ : Nat} (A B : Blks) (x : Own) {k m c : Nat} {q : Option Addr} {xs : List Value} (ys : List Value) (hT : apB P T = some (e, sz, by_)) (hn : news = A ++ (ownB e x xs ++ B))
    (hs : rev r s = some (ownV x k)) (hy : rev r y = some (.slice q m c)) (hx : OwnOk sz x k xs) (hl : ys.length = m * sz) (hq : q = none → m = 0 ∧ c = 0)
    (hc : ∀ w, Mem W chg news w → ∀ j u, ys[j]? = some u → ∃ ad, q = some ad ∧ w.cell? (ad.add j) = some u) (h1 : ∀ u ∈ ys, u.oneCell' = true) (b1 : k + m ≤ maxLen) (b2 : (k + m) * by_ ≤ 140737488355328) (hd : Nat.ble (d + 1) n = true)
    (h : ∀ z, OwnOk sz z (k + m) (xs ++ ys) → RunL P ops Q n rest ((d, ownV z (k + m)) :: r) ds W chg (A ++ (ownB e z (xs ++ ys) ++ B))) :
    RunL P ops Q n ({ dst := some d, op := .call { callee := .builtin .append, args := #[s, y], argTypes := #[T, T] }, type := ty, pos, after, guard := none } :: rest) r ds W chg news := fun a w st =>
  wpList_plain rfl fun K hK => by
    have hm := st.mem
    rw [hn] at hm
    obtain ⟨z, w', hrun, ho, hm'⟩ := append_run (P := P) (tt := ty) hT hm hx hl hq (hc w st.mem) h1 b1 b2
    unfold Oper.wp
    simp [execOp, resolve, invoke, builtin, st.agree.eval hs, st.agree.eval hy, hrun, Result.andThen]
    refine hK _ _ (h z ho _ _ ?_)
    have st2 := st.put (Nat.le_of_ble_eq_true hd) (ownV z (k + m))
    exact ⟨st2.size, st2.agree, st2.defers, hm'⟩
theorem New.buildSlice0 {T e : TypeId} {sz : Nat} (hT : slB P T = some (e, sz)) :
    New P r W chg news { dst, op := .buildSlice T 0 #[], type := ty, pos, after, guard := gd } (fun b => .slice (some ⟨b, 0, none⟩) 0 0) (.cells [].toArray e (0, 0)) :=
  ⟨fun a w ha _ => by
    unfold slB at hT
    split at hT
    · rename_i e' hu
      cases hj : P.info? e' with
      | none => simp [hj] at hT
      | some j =>
        simp only [hj, Option.map_some, Option.some.injEq, Prod.mk.injEq] at hT
        obtain ⟨rfl, rfl⟩ := hT
        have hrun : (Instr.buildSlice T 0 #[]).run P w = .ok (.slice (some ⟨w.heap.size, 0, none⟩) 0 0) (w.alloc (.cells #[] e')) := by
          unfold Instr.buildSlice
          simp [run_underlying hu, sizeOf, typeInfo, hj, newRow, newObj, Sem.run, Instr.fill, show Array.range 0 = #[] from by simp [Array.range]]
        simp [execOp, hrun]
    · cases hT⟩

theorem Pick.skip {x : Nat × Obj} {l l' : Blks} (h : Pick l l') : Pick l (x :: l') := by
  have key : ∀ {a b : Blks}, Pick a b → ∀ y, Pick a (y :: b) := by
    intro a b hp
    induction hp with
    | nil => intro y; exact .nil
    | cons ht he hr ih => intro y; exact .cons (.there ht) he (ih y)
  exact key h x

/-- What a round of a loop that counts, and whose states bear something more, must come to. -/
def RoundX {X : Type} (n : Nat) (ds : List Deferred) (W : World) (chg : Nat → X → Blks) (N : Nat) (Inv : Nat → X → Prop) (R : Nat → X → Regs) (Nw : Nat → X → Blks) (k : Nat) (a : Act) (w : World) : Prop :=
  ∃ k' x', k < k' ∧ k' ≤ N ∧ Inv k' x' ∧ St n (R k' x') ds W (chg k' x') (Nw k' x') a w
theorem RunC.loopX {X : Type} {body : Code} {q : Regs} (n0 : Blks) (N : Nat) (R : Nat → X → Regs → Regs) (C V T : Nat → X → Blks) (Inv : Nat → X → Prop) (x0 : X) (h0 : Inv 0 x0) (hc : chg = C 0 x0) (hs : Sub (R 0 x0 q) r) (hn : Pick (V 0 x0 ++ (n0 ++ T 0 x0)) news)
    (hb : ∀ k x, k ≤ N → Inv k x → RunC P (Exit.then (RoundX n ds W C N Inv (fun k x => R k x q) (fun k x => V k x ++ (n0 ++ T k x)) k) Q) n body (R k x q) ds W (C k x) (V k x ++ (n0 ++ T k x))) : RunC P Q n (.loop body) r ds W chg news := by
  have key : ∀ (m k : Nat) (x : X), N - k < m → k ≤ N → Inv k x → ∀ a w, St n (R k x q) ds W (C k x) (V k x ++ (n0 ++ T k x)) a w → Code.rounds P body Q m a w := by
    intro m
    induction m with
    | zero => intro k x h; omega
    | succ m ih =>
      intro k x hk hN hi a w s
      rw [rounds_succ]
      refine wp_mono (hb k x hN hi a w s) ?_
      rintro e a2 w2 hq
      cases e with
      | normal =>
        obtain ⟨k', x', h1, h2, h3, s2⟩ := hq
        exact ih k' x' (by omega) h2 h3 a2 w2 s2
      | exit id => exact hq
      | goto l => exact hq
      | ret => exact hq
      | panic c => exact hq
      | outgrown => exact hq
  intro a w s
  subst hc
  exact wp_loop_rounds _ (key _ 0 x0 (Nat.lt_succ_self _) (Nat.zero_le _) h0 a w (s.pick hs hn))
theorem RunE.roundX {X : Type} {C : Nat → X → Blks} {N : Nat} {Inv : Nat → X → Prop} {R : Nat → X → Regs} {Nw : Nat → X → Blks} {k : Nat} (x : X) (hN : k + 1 ≤ N) (hi : Inv (k + 1) x) (hc : chg = C (k + 1) x) (hs : Sub (R (k + 1) x) r) (hn : Pick (Nw (k + 1) x) news) :
    RunE (Exit.then (RoundX n ds W C N Inv R Nw k) Q) n .normal r ds W chg news := fun _ _ s => ⟨k + 1, x, Nat.lt_succ_self _, hN, hi, by subst hc; exact s.pick hs hn⟩

/-- Rows in a block, and cells behind them. -/
theorem Sl.rowsR {w : World} {b : Nat} {T : TypeId} {fr : Nat × Nat} {sz : Nat} {xs : List (List Value)} {t : List Value} (h : w.heap[b]? = some (.cells (xs.flatten ++ t).toArray T fr)) (hl : ∀ x ∈ xs, x.length = sz) : Sl w (some ⟨b, 0, none⟩) b 0 sz xs :=
  ⟨fun _ => rfl, hl, fun i hi j hj => by
    have h2 := flat_get xs i hi j hl hj
    have h3 : i * sz + j < xs.flatten.length := by
      have h4 : xs[i].length = sz := hl _ (List.getElem_mem hi)
      rw [List.getElem?_eq_getElem (show j < xs[i].length by omega)] at h2
      exact (List.getElem?_eq_some_iff.1 h2).1
    rw [cell_of_cells h, ← h2]
    simp [List.getElem?_append_left h3]⟩
/-- The cells of a slice, one after the other. -/
theorem Sl.flat {w : World} {p : Option Addr} {b o sz : Nat} {xs : List (List Value)} (h : Sl w p b o sz xs) (hz : 0 < sz) : ∀ j u, xs.flatten[j]? = some u → ∃ ad, p = some ad ∧ w.cell? (ad.add j) = some u := by
  intro j u hj
  have hfl : xs.flatten.length = xs.length * sz := by
    have : ∀ l : List (List Value), (∀ x ∈ l, x.length = sz) → l.flatten.length = l.length * sz := by
      intro l
      induction l with
      | nil => intro _; simp
      | cons y l ih => intro hy; simp only [List.flatten_cons, List.length_append, List.length_cons, hy y (by simp), ih (fun z hz => hy z (by simp [hz])), Nat.add_mul]; omega
    exact this xs h.len
  have hjl := (List.getElem?_eq_some_iff.1 hj).1
  have hi : j / sz < xs.length := by rw [Nat.div_lt_iff_lt_mul hz]; omega
  have hr : j % sz < sz := Nat.mod_lt _ hz
  have he : j / sz * sz + j % sz = j := by rw [Nat.mul_comm]; exact Nat.div_add_mod j sz
  have h1 := flat_get xs (j / sz) hi (j % sz) h.len hr
  rw [he, hj] at h1
  refine ⟨_, h.ptr hi, ?_⟩
  have h2 := h.cell (j / sz) hi (j % sz) hr
  rw [Nat.add_assoc, he] at h2
  rw [add_plain, h2, h1]
theorem OwnOk.empty {sz b : Nat} : OwnOk sz (some (b, 0, [])) 0 [] := ⟨by simp, fun _ => rfl, fun _ _ _ h => by cases h; simp [maxLen]⟩
theorem src_blk {w : World} {b : Nat} {T : TypeId} {fr : Nat × Nat} {ys : List Value} (h : w.heap[b]? = some (.cells ys.toArray T fr)) : ∀ j u, ys[j]? = some u → ∃ ad, (some ⟨b, 0, none⟩ : Option Addr) = some ad ∧ w.cell? (ad.add j) = some u := fun j u hj =>
  ⟨_, rfl, by rw [add_plain, cell_of_cells h]; simpa using hj⟩
theorem one_of {ys : List Value} (h : ys.all (·.oneCell') = true) : ∀ u ∈ ys, u.oneCell' = true := fun u hu => List.all_eq_true.1 h u hu
theorem one_flat {α : Type} {f : α → List Value} (hf : ∀ a, (f a).all (·.oneCell') = true) (l : List α) : ∀ u ∈ (l.map f).flatten, u.oneCell' = true := fun u hu => by
  obtain ⟨x, hx, hu⟩ := List.mem_flatten.1 hu
  obtain ⟨a, _, rfl⟩ := List.mem_map.1 hx
  exact one_of (hf a) u hu
theorem flat_len {α : Type} {f : α → List Value} {sz : Nat} (hf : ∀ a, (f a).length = sz) : ∀ l : List α, (l.map f).flatten.length = l.length * sz
  | [] => by simp
  | a :: l => by simp only [List.map_cons, List.flatten_cons, List.length_append, List.length_cons, hf a, flat_len hf l, Nat.add_mul]; omega
theorem pasteN_app {t : List Value} : ∀ {cs vs cs' : List Value}, pasteN cs vs = some cs' → pasteN (cs ++ t) vs = some (cs' ++ t)
  | cs, [], cs', h => by cases cs <;> simp [pasteN] at h <;> subst h <;> cases t <;> simp [pasteN]
  | [], _ :: _, _, h => by simp [pasteN] at h
  | c :: cs, v :: vs, cs', h => by
    simp only [pasteN] at h
    split at h
    · rename_i h1
      split at h
      · rename_i l hl
        cases h
        simp only [List.cons_append, pasteN, h1, pasteN_app (t := t) hl]
      · cases h
    · cases h
theorem paste_app {t : List Value} : ∀ {o : Nat} {cs vs cs' : List Value}, paste cs o vs = some cs' → paste (cs ++ t) o vs = some (cs' ++ t)
  | 0, cs, vs, cs', h => by
    have h' : pasteN cs vs = some cs' := by cases cs <;> simpa [paste] using h
    have := pasteN_app (t := t) h'
    cases hc : cs ++ t <;> rw [hc] at this <;> simpa [paste] using this
  | o + 1, [], vs, cs', h => by simp [paste] at h
  | o + 1, c :: cs, vs, cs', h => by
    simp only [paste] at h
    split at h
    · rename_i l hl
      cases h
      simp only [List.cons_append, paste, paste_app (t := t) hl]
    · cases h
theorem paste_pre {x : List Value} {o : Nat} {cs vs cs' : List Value} (h : paste cs o vs = some cs') : paste (x ++ cs) (x.length + o) vs = some (x ++ cs') := by
  induction x with
  | nil => simpa using h
  | cons c x ih =>
    rw [List.cons_append, List.length_cons, show x.length + 1 + o = (x.length + o) + 1 by omega]
    simp only [paste, ih, List.cons_append]
/-- A store into one row of some. -/
theorem paste_row {α : Type} {f : α → List Value} {sz : Nat} (hf : ∀ a, (f a).length = sz) {a' : α} {j : Nat} {vs t : List Value} : ∀ {l : List α} {i : Nat} (hi : i < l.length), paste (f l[i]) j vs = some (f a') → paste ((l.map f).flatten ++ t) (i * sz + j) vs = some (((l.set i a').map f).flatten ++ t)
  | [], i, hi, _ => by simp at hi
  | a :: l, 0, _, h => by
    simp only [List.map_cons, List.flatten_cons, Nat.zero_mul, Nat.zero_add, List.set_cons_zero, List.append_assoc]
    exact paste_app (by simpa using h)
  | a :: l, i + 1, hi, h => by
    have ih := paste_row (l := l) hf (t := t) (show i < l.length by simpa using hi) (by simpa using h)
    simp only [List.map_cons, List.flatten_cons, List.set_cons_succ, List.append_assoc]
    have h2 := paste_pre (x := f a) ih
    rw [hf a, show sz + (i * sz + j) = (i + 1) * sz + j by rw [Nat.add_mul]; omega] at h2
    exact h2
theorem Pick.same {l l' : Blks} (h : l = l') : Pick l l' := h ▸ Pick.refl l
theorem RunI.append {i : Nat} {K : Act → World → Prop} {s y : Operand} {T e : TypeId} {sz by_ : Nat} (A B : Blks) (x : Own) {k m c : Nat} {q : Option Addr} {xs : List Value} (ys : List Value)
    (ho : ops[i]? = some { dst := some d, op := .call { callee := .builtin .append, args := #[s, y], argTypes := #[T, T] }, type := ty, pos, after, guard := none }) (hT : apB P T = some (e, sz, by_)) (hn : news = A ++ (ownB e x xs ++ B))
    (hs : rev r s = some (ownV x k)) (hy : rev r y = some (.slice q m c)) (hx : OwnOk sz x k xs) (hl : ys.length = m * sz) (hq : q = none → m = 0 ∧ c = 0)
    (hc : ∀ w, Mem W chg news w → ∀ j u, ys[j]? = some u → ∃ ad, q = some ad ∧ w.cell? (ad.add j) = some u) (h1 : ∀ u ∈ ys, u.oneCell' = true) (b1 : k + m ≤ maxLen) (b2 : (k + m) * by_ ≤ 140737488355328) (hd : Nat.ble (d + 1) n = true)
    (h : ∀ z, OwnOk sz z (k + m) (xs ++ ys) → RunK n K ((d, ownV z (k + m)) :: r) ds W chg (A ++ (ownB e z (xs ++ ys) ++ B))) : RunI P ops Q n i K r ds W chg news := fun a w st => by
  have hm := st.mem
  rw [hn] at hm
  obtain ⟨z, w', hrun, hz, hm'⟩ := append_run (P := P) (tt := ty) hT hm hx hl hq (hc w st.mem) h1 b1 b2
  have st2 := st.put (Nat.le_of_ble_eq_true hd) (ownV z (k + m))
  have hK := h z hz _ w' ⟨st2.size, st2.agree, st2.defers, hm'⟩
  unfold wpOp
  simp only [ho]
  refine .inl ?_
  unfold Oper.wp
  simp [execOp, resolve, invoke, builtin, st.agree.eval hs, st.agree.eval hy, hrun, Result.andThen]
  exact hK
theorem RunI.keep {i : Nat} {K : Act → World → Prop} {q : Regs} {news' : Blks} (hs : Sub q r) (hn : Pick news' news) (h : RunI P ops Q n i K q ds W chg news') : RunI P ops Q n i K r ds W chg news := fun a w s => h a w (s.pick hs hn)
/-! ### A slice of the function's own, handed on -/
def ownQ (x : Own) : Option Addr := x.map fun y => ⟨y.1, 0, none⟩
def ownC (x : Own) : Nat := match x with | none => 0 | some y => y.2.1
def ownK (x : Own) : Nat := match x with | none => 0 | some y => y.1
theorem ownV_slice {sz : Nat} {x : Own} {k : Nat} {xs : List Value} (h : OwnOk sz x k xs) : ownV x k = .slice (ownQ x) k (ownC x) := by
  match x, h with
  | none, h => rw [h.nil rfl]; rfl
  | some _, _ => rfl
theorem own_sl {α : Type} {f : α → List Value} {sz : Nat} (hf : ∀ a, (f a).length = sz) (hz : 0 < sz) {x : Own} {k : Nat} {l : List α} {e : TypeId} {w : World} (h : OwnOk sz x k (l.map f).flatten) (hm : ∀ b o, (b, o) ∈ ownB e x (l.map f).flatten → w.heap[b]? = some o) :
    Sl w (ownQ x) (ownK x) 0 sz (l.map f) := by
  match x, h, hm with
  | none, h, _ =>
    have h1 := h.nil rfl
    have h2 := h.len
    rw [h1, flat_len hf, Nat.zero_mul] at h2
    have h3 : l = [] := by
      cases l with
      | nil => rfl
      | cons a l => simp only [List.length_cons, Nat.add_mul] at h2; omega
    subst h3
    exact Sl.emp
  | some (b, c, r), _, hm => exact Sl.rowsR (hm b _ (List.mem_singleton.2 rfl)) (fun x hx => by obtain ⟨a, _, rfl⟩ := List.mem_map.1 hx; exact hf a)
theorem flat_snoc {α : Type} {f : α → List Value} (l : List α) (a : α) : (l.map f).flatten ++ f a = ((l ++ [a]).map f).flatten := by simp
end
end Go.Eng
