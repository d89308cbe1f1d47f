/- The engine: maps whose keys are numbers, and loops over them. No program is in sight. -/
import Derived.Maps.RangeRun
import Derived.Test.YthoheicppmbepaaMore8
namespace Go.Eng
open Go Go.RowKit
/-- The entries of a map whose keys are numbers, in the order in which they came. -/
def mEntsF : Nat → List (Int × Value) → List MapEntry
  | _, [] => []
  | i, x :: l => { key := .int .i64 x.1, val := x.2, born := i } :: mEntsF (i + 1) l
def mapO (l : List (Int × Value)) : Obj := .map (mEntsF 0 l).toArray l.length
def mIdx : List (Int × Value) → Int → Option (Nat × Value)
  | [], _ => none
  | x :: l, a => if x.1 = a then some (0, x.2) else (mIdx l a).map fun p => (p.1 + 1, p.2)
def mFind (l : List (Int × Value)) (a : Int) : Option Value := (mIdx l a).map (·.2)
theorem ents_len : ∀ (l : List (Int × Value)) (i : Nat), (mEntsF i l).length = l.length
  | [], _ => rfl
  | x :: l, i => by simp [mEntsF, ents_len l (i + 1)]
theorem ents_snoc : ∀ (l : List (Int × Value)) (i : Nat) (x : Int × Value), mEntsF i (l ++ [x]) = mEntsF i l ++ [{ key := .int .i64 x.1, val := x.2, born := i + l.length }]
  | [], i, x => by simp [mEntsF]
  | y :: l, i, x => by
    simp only [List.cons_append, mEntsF, ents_snoc l (i + 1) x, List.length_cons]
    rw [show i + 1 + l.length = i + (l.length + 1) by omega]
theorem ents_mem {e : MapEntry} : ∀ (l : List (Int × Value)) (i : Nat), e ∈ mEntsF i l → ∃ j, ∃ h : j < l.length, e = { key := .int .i64 l[j].1, val := l[j].2, born := i + j }
  | [], i, h => by cases h
  | x :: l, i, h => by
    simp only [mEntsF, List.mem_cons] at h
    rcases h with rfl | h
    · exact ⟨0, by simp, by simp⟩
    · obtain ⟨j, hj, rfl⟩ := ents_mem l (i + 1) h
      exact ⟨j + 1, by simp only [List.length_cons]; omega, by simp only [List.getElem_cons_succ]; rw [show i + 1 + j = i + (j + 1) by omega]⟩
theorem ents_in : ∀ (l : List (Int × Value)) (i j : Nat) (h : j < l.length), ({ key := .int .i64 l[j].1, val := l[j].2, born := i + j } : MapEntry) ∈ mEntsF i l
  | x :: l, i, 0, _ => by simp [mEntsF]
  | x :: l, i, j + 1, h => by
    have := ents_in l (i + 1) j (by simpa using h)
    simp only [mEntsF, List.mem_cons, List.getElem_cons_succ]
    right
    rw [show i + (j + 1) = i + 1 + j by omega]
    exact this
theorem findNow_ents (q : IntKind) (a : Int) : ∀ (l : List (Int × Value)) (i j : Nat), Instr.findNow (.int q) (.int .i64 a) (mEntsF i l) j = some ((mIdx l a).map fun p => (j + p.1, p.2))
  | [], _, _ => rfl
  | x :: l, i, j => by
    unfold mEntsF Instr.findNow mIdx
    by_cases h : x.1 = a
    · subst h; simp [Instr.sameNow]
    · have h2 : (a == x.1) = false := by simp; exact fun e => h e.symm
      simp only [Instr.sameNow, if_true, h2, h, if_false]
      rw [findNow_ents q a l (i + 1) (j + 1)]
      cases mIdx l a with
      | none => rfl
      | some p => simp; omega
/-- A map type whose keys are whole numbers: the type of its elements. -/
def mapB (P : Program) (T : TypeId) : Option TypeId := match P.underlying T with
  | some (.map k e) => if (P.underlying k).any isIntD then some e else none
  | _ => none
def zeroV (P : Program) (E : TypeId) : Option Value := (P.info? E).bind (·.zero)
theorem mapB_spec {P : Program} {T E : TypeId} (h : mapB P T = some E) : ∃ k q, P.underlying T = some (.map k E) ∧ P.underlying k = some (.int q) := by
  unfold mapB at h
  split at h
  · rename_i k e hu
    split at h
    · rename_i hk
      obtain ⟨q, hq⟩ := any_int hk
      cases h
      exact ⟨k, q, hu, hq⟩
    · cases h
  · cases h
section
variable {P : Program} {ops : Array Oper} {Q : Exit → Act → World → Prop} {n : Nat} {r : Regs} {ds : List Deferred} {W : World} {chg news : Blks} {rest : List Oper}
variable {d : Nat} {ty : TypeId} {pos : String} {after : Array Edge} {dst : Option Tmp} {gd : Option (Nat × Bool)}
theorem run_lookup_num {w : World} {T E : TypeId} {b : Nat} {l : List (Int × Value)} {a : Int} {z : Value} {ok : Bool} (hb : w.heap[b]? = some (mapO l)) (hT : mapB P T = some E) (hz : zeroV P E = some z) :
    (Instr.lookup T (.map (some b)) (.int .i64 a) ok).run P w = .ok (if ok then .tuple #[(mFind l a).getD z, .bool (mFind l a).isSome] else (mFind l a).getD z) w := by
  obtain ⟨k, q, hu, hq⟩ := mapB_spec hT
  have hzz : (zeroValue E).run P w = .ok z w := by
    unfold zeroV at hz
    cases hi : P.info? E with
    | none => simp [hi] at hz
    | some i =>
      simp [hi] at hz
      simp [zeroValue, typeInfo, hi, hz]
  have hf : (Instr.findKey k (.int .i64 a) (mEntsF 0 l)).run P w = .ok (mIdx l a) w := by
    have := findNow_ents q a l 0 0
    refine (MapKept.run_findKey hq this).trans ?_
    cases mIdx l a <;> simp
  have hc : ∀ e, (Instr.checkKey e 10000 k (.int .i64 a)).run P w = .ok () w := fun e => by
    rw [show (10000 : Nat) = 9999 + 1 from rfl]
    unfold Instr.checkKey
    simp [run_underlying hq]
  unfold mapO at hb
  unfold mFind
  simp only [Instr.lookup, Sem.run_bind, run_underlying hu, Result.andThen_ok, MapKept.run_getObj_map hb, Sem.run_pure]
  rw [hc]
  simp only [Result.andThen_ok, hf]
  cases h : mIdx l a with
  | none => cases ok <;> simp [hzz]
  | some p => cases ok <;> simp
theorem Val.lookup {x i : Operand} {T E : TypeId} {b : Nat} {l : List (Int × Value)} {a : Int} {z : Value} (hx : rev r x = some (.map (some b))) (hi : rev r i = some (.int .i64 a)) (hb : ∀ w, Mem W chg news w → w.heap[b]? = some (mapO l)) (hT : mapB P T = some E) (hz : zeroV P E = some z) :
    Val P r W chg news { dst, op := .lookup T x i false, type := ty, pos, after, guard := gd } ((mFind l a).getD z) :=
  ⟨fun ac w ha hm => by
    have h1 := run_lookup_num (P := P) (ok := false) (a := a) (hb w hm) hT hz
    simp at h1
    simp [execOp, ha.eval hx, ha.eval hi, h1]⟩
theorem Val.lookupOk {x i : Operand} {T E : TypeId} {b : Nat} {l : List (Int × Value)} {a : Int} {z : Value} (hx : rev r x = some (.map (some b))) (hi : rev r i = some (.int .i64 a)) (hb : ∀ w, Mem W chg news w → w.heap[b]? = some (mapO l)) (hT : mapB P T = some E) (hz : zeroV P E = some z) :
    Val P r W chg news { dst, op := .lookup T x i true, type := ty, pos, after, guard := gd } (.tuple #[(mFind l a).getD z, .bool (mFind l a).isSome]) :=
  ⟨fun ac w ha hm => by
    have h1 := run_lookup_num (P := P) (ok := true) (a := a) (hb w hm) hT hz
    simp at h1
    simp [execOp, ha.eval hx, ha.eval hi, h1]⟩
theorem Val.lookupE {x i : Operand} {T E : TypeId} {b : Nat} {l : List (Int × Value)} {a : Int} {z : Value} {o : Option Value} (hx : rev r x = some (.map (some b))) (hi : rev r i = some (.int .i64 a)) (hb : ∀ w, Mem W chg news w → w.heap[b]? = some (mapO l)) (hT : mapB P T = some E) (hz : zeroV P E = some z) (ho : mFind l a = o) :
    Val P r W chg news { dst, op := .lookup T x i false, type := ty, pos, after, guard := gd } (o.getD z) := ho ▸ Val.lookup hx hi hb hT hz
theorem Val.lookupOkE {x i : Operand} {T E : TypeId} {b : Nat} {l : List (Int × Value)} {a : Int} {z : Value} {o : Option Value} (hx : rev r x = some (.map (some b))) (hi : rev r i = some (.int .i64 a)) (hb : ∀ w, Mem W chg news w → w.heap[b]? = some (mapO l)) (hT : mapB P T = some E) (hz : zeroV P E = some z) (ho : mFind l a = o) :
    Val P r W chg news { dst, op := .lookup T x i true, type := ty, pos, after, guard := gd } (.tuple #[o.getD z, .bool o.isSome]) := ho ▸ Val.lookupOk hx hi hb hT hz
theorem Val.lookupV {x i : Operand} {T E : TypeId} {b : Nat} {l : List (Int × Value)} {a : Int} {z v : Value} (hx : rev r x = some (.map (some b))) (hi : rev r i = some (.int .i64 a)) (hb : ∀ w, Mem W chg news w → w.heap[b]? = some (mapO l)) (hT : mapB P T = some E) (hz : zeroV P E = some z) (ho : (mFind l a).getD z = v) :
    Val P r W chg news { dst, op := .lookup T x i false, type := ty, pos, after, guard := gd } v := ho ▸ Val.lookup hx hi hb hT hz
theorem Val.lookupOkV {x i : Operand} {T E : TypeId} {b : Nat} {l : List (Int × Value)} {a : Int} {z v : Value} (hx : rev r x = some (.map (some b))) (hi : rev r i = some (.int .i64 a)) (hb : ∀ w, Mem W chg news w → w.heap[b]? = some (mapO l)) (hT : mapB P T = some E) (hz : zeroV P E = some z) (ho : Value.tuple #[(mFind l a).getD z, .bool (mFind l a).isSome] = v) :
    Val P r W chg news { dst, op := .lookup T x i true, type := ty, pos, after, guard := gd } v := ho ▸ Val.lookupOk hx hi hb hT hz
theorem New.makeMap {T : TypeId} : New P r W chg news { dst, op := .makeMap T none, type := ty, pos, after, guard := gd } (fun b => .map (some b)) (mapO []) :=
  ⟨fun a w _ _ => by simp [execOp, Instr.makeMap, newObj, Sem.run, mapO, mEntsF]⟩
theorem run_mapUpdate_num {w : World} {T E : TypeId} {b : Nat} {l : List (Int × Value)} {a : Int} {v : Value} (hb : w.heap[b]? = some (mapO l)) (hT : mapB P T = some E) (hk : mIdx l a = none) :
    (Instr.mapUpdate T (.map (some b)) (.int .i64 a) v).run P w = .ok () { w with heap := w.heap.setIfInBounds b (mapO (l ++ [(a, v)])) } := by
  obtain ⟨k, q, hu, hq⟩ := mapB_spec hT
  have hf : (Instr.findKey k (.int .i64 a) (mEntsF 0 l)).run P w = .ok none w := by
    have := findNow_ents q a l 0 0
    rw [hk] at this
    exact MapKept.run_findKey hq this
  have hc : ∀ e, (Instr.checkKey e 10000 k (.int .i64 a)).run P w = .ok () w := fun e => by
    rw [show (10000 : Nat) = 9999 + 1 from rfl]
    unfold Instr.checkKey
    simp [run_underlying hq]
  have e1 : mapO (l ++ [(a, v)]) = .map ((mEntsF 0 l).toArray.push { key := .int .i64 a, val := v, born := l.length }) (l.length + 1) := by
    unfold mapO
    rw [ents_snoc]
    simp
  unfold mapO at hb
  rw [e1]
  simp only [Instr.mapUpdate, Sem.run_bind, run_underlying hu, Result.andThen_ok, MapKept.run_getObj_map hb, hc, hf, MapKept.run_setObj_map _ hb]
theorem heap_set_spec {w : World} {b : Nat} {o o' : Obj} (hb : w.heap[b]? = some o) : ({ w with heap := w.heap.setIfInBounds b o' } : World).heap[b]? = some o' ∧ ∀ k, k ≠ b → ({ w with heap := w.heap.setIfInBounds b o' } : World).heap[k]? = w.heap[k]? := by
  have hlt := (Array.getElem?_eq_some_iff.1 hb).1
  refine ⟨by simp [hlt], fun k hk => ?_⟩
  show (w.heap.setIfInBounds b o')[k]? = _
  rw [Array.getElem?_setIfInBounds, if_neg (fun e => hk e.symm)]
theorem Sto.mapNew {x i y : Operand} {T E : TypeId} {b : Nat} {l : List (Int × Value)} {a : Int} {v : Value} {news' : Blks} (hx : rev r x = some (.map (some b))) (hi : rev r i = some (.int .i64 a)) (hy : rev r y = some v) (hu : Upd news b (mapO l) (mapO (l ++ [(a, v)])) news') (hT : mapB P T = some E) (hk : mIdx l a = none) :
    Sto P r W chg news { dst, op := .mapUpdate T x i y, type := ty, pos, after, guard := gd } chg news' :=
  ⟨fun ac w ha hm => by
    have hb := (hm.newd _ _ hu.mem).2
    obtain ⟨s1, s2⟩ := heap_set_spec (o' := mapO (l ++ [(a, v)])) hb
    refine ⟨{ w with heap := w.heap.setIfInBounds b (mapO (l ++ [(a, v)])) }, by simp [execOp, ha.eval hx, ha.eval hi, ha.eval hy, run_mapUpdate_num hb hT hk], hm.upd_new hu rfl rfl rfl (by simp) (fun k _ hk => s2 k hk) s1⟩⟩
theorem Sto.mapNew_chg {x i y : Operand} {T E : TypeId} {b : Nat} {l : List (Int × Value)} {a : Int} {v : Value} {chg' : Blks} (hx : rev r x = some (.map (some b))) (hi : rev r i = some (.int .i64 a)) (hy : rev r y = some v) (hu : Upd chg b (mapO l) (mapO (l ++ [(a, v)])) chg') (hT : mapB P T = some E) (hk : mIdx l a = none) :
    Sto P r W chg news { dst, op := .mapUpdate T x i y, type := ty, pos, after, guard := gd } chg' news :=
  ⟨fun ac w ha hm => by
    have hb := (hm.chgd _ _ hu.mem).2
    obtain ⟨s1, s2⟩ := heap_set_spec (o' := mapO (l ++ [(a, v)])) hb
    refine ⟨{ w with heap := w.heap.setIfInBounds b (mapO (l ++ [(a, v)])) }, by simp [execOp, ha.eval hx, ha.eval hi, ha.eval hy, run_mapUpdate_num hb hT hk], hm.upd_chg hu rfl rfl rfl (by simp) (fun k _ hk => s2 k hk) s1⟩⟩
/-- What a loop over a map has of it: the entries that have come, in whatever order. -/
def itO (m : Nat) (l : List (Int × Value)) (x : List Nat) : Obj := .mapIter (some m) l.length x.toArray l.length
theorem New.range {x : Operand} {T E : TypeId} {m : Nat} {l : List (Int × Value)} (hx : rev r x = some (.map (some m))) (hb : ∀ w, Mem W chg news w → w.heap[m]? = some (mapO l)) (hT : mapB P T = some E) :
    New P r W chg news { dst, op := .range T x, type := ty, pos, after, guard := gd } (fun b => .pointer (some ⟨b, 0, none⟩)) (itO m l []) :=
  ⟨fun a w ha hm => by
    obtain ⟨k, q, hu, hq⟩ := mapB_spec hT
    have hb' : w.heap[m]? = some (.map (mEntsF 0 l).toArray l.length) := hb w hm
    simp [execOp, ha.eval hx, Instr.range, run_underlying hu, MapKept.run_getObj_map hb', newObj, Sem.run, itO]⟩
theorem RunL.next {it : Operand} {rb m : Nat} {l : List (Int × Value)} {x : List Nat} {news' : Nat → Blks} (hx : rev r it = some (.pointer (some ⟨rb, 0, none⟩))) (hm0 : ∀ w, Mem W chg news w → w.heap[m]? = some (mapO l)) (hu : ∀ i, Upd news rb (itO m l x) (itO m l (x ++ [i])) (news' i)) (hn : Nat.ble (d + 1) n = true)
    (h1 : ∀ i (hi : i < l.length), i ∉ x → RunL P ops Q n rest ((d, .tuple #[.bool true, .int .i64 l[i].1, l[i].2]) :: r) ds W chg (news' i))
    (h2 : (∀ i, i < l.length → i ∈ x) → RunL P ops Q n rest ((d, .tuple #[.bool false]) :: r) ds W chg news) :
    RunL P ops Q n ({ dst := some d, op := .next it false, type := ty, pos, after, guard := none } :: rest) r ds W chg news := fun a w s =>
  wpList_plain rfl fun K hK => by
    have hr : w.heap[rb]? = some (.mapIter (some m) l.length x.toArray l.length) := (s.mem.newd _ _ (hu 0).mem).2
    have hb : w.heap[m]? = some (.map (mEntsF 0 l).toArray l.length) := hm0 w s.mem
    have hev := s.agree.eval hx
    have hlt : ∀ e ∈ (mEntsF 0 l).toArray.toList, e.born < l.length := fun e he => by
      obtain ⟨j, hj, rfl⟩ := ents_mem l 0 (by simpa using he)
      simpa using hj
    unfold Oper.wp
    rcases run_next_at (P := P) w ty rb m l.length l.length x.toArray (mEntsF 0 l).toArray l.length hr hb hlt (Nat.le_refl _) with ⟨h0, hrun⟩ | ⟨e, he, w1, hw1, hrun⟩
    · simp [execOp, hev, hrun]
      refine hK _ _ (h2 (fun i hi => ?_) _ _ (s.put (Nat.le_of_ble_eq_true hn) _))
      by_cases hc : i ∈ x
      · exact hc
      · exfalso
        have hin : ({ key := .int .i64 l[i].1, val := l[i].2, born := 0 + i } : MapEntry) ∈ leftOf (mEntsF 0 l).toArray x.toArray := by
          unfold leftOf
          simp only [Array.mem_filter, List.mem_toArray]
          exact ⟨ents_in l 0 i hi, by simpa using hc⟩
        have := Array.size_pos_of_mem hin
        omega
    · have he2 : e ∈ (mEntsF 0 l) ∧ e.born ∉ x := by
        have h3 : e ∈ leftOf (mEntsF 0 l).toArray x.toArray := by simpa using he
        unfold leftOf at h3
        simp only [Array.mem_filter, List.mem_toArray] at h3
        exact ⟨h3.1, by simpa using h3.2⟩
      obtain ⟨j, hj, rfl⟩ := ents_mem l 0 he2.1
      have hjx : j ∉ x := by simpa using he2.2
      simp [execOp, hev, hrun]
      refine hK _ _ (h1 j hj hjx _ _ ?_)
      have s2 := s.put (Nat.le_of_ble_eq_true hn) (.tuple #[.bool true, .int .i64 l[j].1, l[j].2])
      have hr1 : w1.heap[rb]? = some (.mapIter (some m) l.length x.toArray l.length) := by rcases hw1 with rfl | rfl <;> exact hr
      obtain ⟨q1, q2⟩ := heap_set_spec (o' := itO m l (x ++ [j])) hr1
      have hmem1 : Mem W chg news w1 := by
        rcases hw1 with rfl | rfl
        · exact s.mem
        · exact s.mem.drew
      refine ⟨s2.size, s2.agree, s2.defers, ?_⟩
      have e1 : ChangeMaps.setBlock w1 rb (.mapIter (some m) l.length (x ++ [j]).toArray l.length) = { w1 with heap := w1.heap.setIfInBounds rb (itO m l (x ++ [j])) } := by
        simp [ChangeMaps.setBlock, itO]
      rw [e1]
      exact hmem1.upd_new (hu j) rfl rfl rfl (by simp) (fun k _ hk => q2 k hk) q1
theorem ents_nodup : ∀ (l : List (Int × Value)) (i : Nat), ((mEntsF i l).map (·.born)).Nodup ∧ ∀ b ∈ (mEntsF i l).map (·.born), i ≤ b
  | [], _ => by simp [mEntsF]
  | x :: l, i => by
    obtain ⟨h1, h2⟩ := ents_nodup l (i + 1)
    simp only [mEntsF, List.map_cons, List.nodup_cons, List.mem_cons, forall_eq_or_imp]
    exact ⟨⟨fun h => by have := h2 _ h; omega, h1⟩, Nat.le_refl _, fun b hb => by have := h2 b hb; omega⟩
/-- The entry to which a loop has come. -/
theorem Val.entry {x : Operand} {rb m i : Nat} {l : List (Int × Value)} {xs : List Nat} (hx : rev r x = some (.pointer (some ⟨rb, 0, none⟩))) (hr : ∀ w, Mem W chg news w → w.heap[rb]? = some (itO m l (xs ++ [i]))) (hm0 : ∀ w, Mem W chg news w → w.heap[m]? = some (mapO l)) (hi : i < l.length) :
    Val P r W chg news { dst, op := .entry x, type := ty, pos, after, guard := gd } (.tuple #[.int .i64 l[i].1, l[i].2]) :=
  ⟨fun a w ha hm => by
    have h1 : w.heap[rb]? = some (.mapIter (some m) l.length (xs.toArray.push (0 + i)) l.length) := by rw [hr w hm]; simp [itO]
    have h2 : w.heap[m]? = some (.map (mEntsF 0 l).toArray l.length) := hm0 w hm
    have := run_entry_at (P := P) w rb m l.length xs.toArray (mEntsF 0 l).toArray l.length { key := .int .i64 l[i].1, val := l[i].2, born := 0 + i } h1 h2 (by simpa using ents_in l 0 i hi) (by simpa using (ents_nodup l 0).1)
    simp [execOp, ha.eval hx, this]⟩
/-- A whole array as a slice. -/
theorem Val.sliceArr {x : Operand} {T : TypeId} {len sz b o : Nat} (hx : rev r x = some (.pointer (some ⟨b, o, none⟩))) (hT : arrB P T = some (len + 1, sz)) :
    Val P r W chg news { dst, op := .slice T x none none none, type := ty, pos, after, guard := gd } (.slice (some ⟨b, o, none⟩) (len + 1) (len + 1)) :=
  ⟨fun a w ha _ => by
    unfold arrB at hT
    split at hT
    · rename_i m e hu
      cases hj : P.info? e with
      | none => simp [hj] at hT
      | some j =>
        simp [hj] at hT
        obtain ⟨rfl, rfl⟩ := hT
        simp [execOp, ha.eval hx, Instr.sliceAt, Instr.sureAddr, Instr.sliceBounds, run_underlying hu, sizeOf, typeInfo, hj, add_plain]
    · cases hT⟩
/-- The method of what lies in an interface, as a value: there is a receiver. -/
theorem Val.nilMeth {x : Operand} {name : String} {first cap : Array Value} {T : TypeId} {v : Value} (hx : rev r x = some (.func (.method name) first cap)) (hf : first[0]? = some (.iface T v)) (hn : ∀ w, (nilAhead (P.types.size + Made.depth) T v name).run P w = .ok (some false) w) :
    Val P r W chg news { dst, op := .nilCheck x, type := ty, pos, after, guard := gd } (.func (.method name) first cap) :=
  ⟨fun a w ha _ => by
    have h1 := hn w
    simp [execOp, ha.eval hx, hf, h1]⟩
theorem Val.entryV {x : Operand} {rb m i : Nat} {l : List (Int × Value)} {xs : List Nat} {v : Value} (hx : rev r x = some (.pointer (some ⟨rb, 0, none⟩))) (hr : ∀ w, Mem W chg news w → w.heap[rb]? = some (itO m l (xs ++ [i]))) (hm0 : ∀ w, Mem W chg news w → w.heap[m]? = some (mapO l)) (hi : i < l.length) (hv : Value.tuple #[.int .i64 l[i].1, l[i].2] = v) :
    Val P r W chg news { dst, op := .entry x, type := ty, pos, after, guard := gd } v := hv ▸ Val.entry hx hr hm0 hi
end
/-- The entries that a loop has met. -/
structure Vis (n k : Nat) (x : List Nat) : Prop where
  nd : x.Nodup
  lt : ∀ i ∈ x, i < n
  len : x.length = k
theorem Vis.nil {n : Nat} : Vis n 0 [] := ⟨List.nodup_nil, fun i h => (by cases h), rfl⟩
theorem nodup_le : ∀ (n : Nat) (x : List Nat), x.Nodup → (∀ i ∈ x, i < n) → x.length ≤ n
  | 0, x, _, h => by
    cases x with
    | nil => simp
    | cons a x => exact absurd (h a (by simp)) (by omega)
  | n + 1, x, hn, h => by
    by_cases hm : n ∈ x
    · have h1 := nodup_le n (x.erase n) (hn.erase n) (fun i hi => by
        have h2 := (List.Nodup.mem_erase_iff hn).1 hi
        have := h i h2.2
        have := h2.1
        omega)
      rw [List.length_erase_of_mem hm] at h1
      omega
    · have := nodup_le n x hn (fun i hi => by
        have := h i hi
        have : i ≠ n := fun e => hm (e ▸ hi)
        omega)
      omega
theorem Vis.snoc {n k i : Nat} {x : List Nat} (h : Vis n k x) (hi : i < n) (hx : i ∉ x) : Vis n (k + 1) (x ++ [i]) :=
  ⟨List.nodup_append.2 ⟨h.nd, by simp, fun a ha b hb => by cases List.mem_singleton.1 hb; exact fun e => hx (e ▸ ha)⟩, fun j hj => by
    rcases List.mem_append.1 hj with hj | hj
    · exact h.lt j hj
    · cases List.mem_singleton.1 hj; exact hi, by simp [h.len]⟩
theorem Vis.more {n k i : Nat} {x : List Nat} (h : Vis n k x) (hi : i < n) (hx : i ∉ x) : k < n := by
  have := nodup_le n _ (h.snoc hi hx).nd (h.snoc hi hx).lt
  rw [(h.snoc hi hx).len] at this
  omega
end Go.Eng
