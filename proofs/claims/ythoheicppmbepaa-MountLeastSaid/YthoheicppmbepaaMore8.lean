/- The engine: structs and arrays of numbers and truth values, compared. No program is in sight. -/
import Derived.ChangeKeysEq
import Derived.Test.YthoheicppmbepaaMore7
namespace Go.Eng
open Go Go.RowKit
/-- Fields that are compared by g. -/
def eqFs (P : Program) (g : TypeId → List Value → List Value → Option Bool) (cs es : List Value) : List Field → Option Bool
  | [] => some true
  | f :: fs => if f.name = "_" then none else
    match g f.type ((cs.drop f.offset).take (P.cellsOf f.type)) ((es.drop f.offset).take (P.cellsOf f.type)), eqFs P g cs es fs with
    | some a, some b => some (a && b)
    | _, _ => none
def eqIs (P : Program) (g : TypeId → List Value → List Value → Option Bool) (e : TypeId) (cs es : List Value) : List Nat → Option Bool
  | [] => some true
  | i :: is => match g e ((cs.drop (i * P.cellsOf e)).take (P.cellsOf e)) ((es.drop (i * P.cellsOf e)).take (P.cellsOf e)), eqIs P g e cs es is with
    | some a, some b => some (a && b)
    | _, _ => none
/-- Are values of a type, cell by cell, the same? -/
def eqF (P : Program) : Nat → TypeId → List Value → List Value → Option Bool
  | 0, _, _, _ => none
  | m + 1, t, cs, es => match P.underlying t with
    | some (.int _) => match cs, es with
      | [.int k a], [.int k' b] => if k = k' then some (decide (a = b)) else none
      | _, _ => none
    | some .bool => match cs, es with
      | [.bool a], [.bool b] => some (a == b)
      | _, _ => none
    | some (.struct fs) => if P.stoodInHeld t = false ∧ cs.length = P.cellsOf t ∧ es.length = P.cellsOf t then eqFs P (eqF P m) cs es fs.toList else none
    | some (.array n e) => if n ≠ 0 ∧ cs.length = P.cellsOf t ∧ es.length = P.cellsOf t then eqIs P (eqF P m) e cs es (List.range n) else none
    | _ => none
def valOf (P : Program) (t : TypeId) (cs : List Value) : Value := match P.underlying t with
  | some (.struct _) => .agg cs.toArray
  | some (.array _ _) => .agg cs.toArray
  | _ => cs.headD undef
section
variable {P : Program}
theorem part_of {m off : Nat} {t : TypeId} {xs es : List Value} {w : World} {b : Bool} (h : eqF P m t ((xs.drop off).take (P.cellsOf t)) es = some b) : (part t xs.toArray off).run P w = .ok (valOf P t ((xs.drop off).take (P.cellsOf t))) w := by
  cases m with
  | zero => cases h
  | succ m =>
    unfold eqF at h
    cases hu : P.underlying t with
    | none => simp [hu] at h
    | some d =>
      rw [hu] at h
      have plain : ∀ v, (xs.drop off).take (P.cellsOf t) = [v] → xs[off]? = some v := fun v hv => by
        have h1 : ((xs.drop off).take (P.cellsOf t))[0]? = some v := by rw [hv]; rfl
        rw [List.getElem?_take] at h1
        split at h1
        · simpa using h1
        · cases h1
      have agg : isAggD d = true → (part t xs.toArray off).run P w = .ok (.agg ((xs.drop off).take (P.cellsOf t)).toArray) w := fun ha => by
        obtain ⟨i, hi⟩ := info_of_underlying hu
        have hc : P.cellsOf t = i.size := by simp [Program.cellsOf, hi]
        have e : xs.toArray.extract off (off + i.size) = ((xs.drop off).take (P.cellsOf t)).toArray := by
          rw [hc]
          simp
        cases d <;> simp [isAggD] at ha <;> simp [part, isAgg, run_underlying hu, sizeOf, typeInfo, hi, ← e]
      unfold valOf
      rw [hu]
      cases d with
      | int k =>
        simp only at h ⊢
        split at h
        · rename_i a _ _ hv
          rw [hv]
          exact run_part1 hu rfl (by simpa using plain _ hv)
        · cases h
      | bool =>
        simp only at h ⊢
        split at h
        · rename_i a _ hv
          rw [hv]
          exact run_part1 hu rfl (by simpa using plain _ hv)
        · cases h
      | struct fs => exact agg rfl
      | array n e => exact agg rfl
      | _ => simp at h
theorem part_of2 {m off : Nat} {t : TypeId} {xs cs : List Value} {w : World} {b : Bool} (h : eqF P m t cs ((xs.drop off).take (P.cellsOf t)) = some b) : (part t xs.toArray off).run P w = .ok (valOf P t ((xs.drop off).take (P.cellsOf t))) w := by
  have h2 : ∃ b, eqF P m t ((xs.drop off).take (P.cellsOf t)) ((xs.drop off).take (P.cellsOf t)) = some b := by
    have sym : ∀ (m : Nat) (t : TypeId) (cs es : List Value) (b : Bool), eqF P m t cs es = some b → ∃ b, eqF P m t es es = some b := by
      intro m
      induction m with
      | zero => intro t cs es b h; cases h
      | succ m ih =>
        intro t cs es b h
        unfold eqF at h ⊢
        split at h
        · split at h
          · split at h
            · rename_i hk; subst hk; exact ⟨_, by simp; rfl⟩
            · cases h
          · cases h
        · split at h
          · exact ⟨_, by simp; rfl⟩
          · cases h
        · rename_i fs _
          split at h
          · rename_i hc
            rw [if_pos ⟨hc.1, hc.2.2, hc.2.2⟩]
            generalize fs.toList = l at h
            induction l generalizing b with
            | nil => exact ⟨true, rfl⟩
            | cons f l ihl =>
              unfold eqFs at h ⊢
              split at h
              · cases h
              · rename_i hn
                rw [if_neg hn]
                split at h
                · rename_i a b' h1 h2
                  obtain ⟨u, hu⟩ := ih _ _ _ _ h1
                  obtain ⟨v, hv⟩ := ihl _ h2
                  rw [hu, hv]; exact ⟨_, rfl⟩
                · cases h
          · cases h
        · rename_i n e _
          split at h
          · rename_i hc
            rw [if_pos ⟨hc.1, hc.2.2, hc.2.2⟩]
            generalize List.range n = l at h
            induction l generalizing b with
            | nil => exact ⟨true, rfl⟩
            | cons i l ihl =>
              unfold eqIs at h ⊢
              split at h
              · rename_i a b' h1 h2
                obtain ⟨u, hu⟩ := ih _ _ _ _ h1
                obtain ⟨v, hv⟩ := ihl _ h2
                rw [hu, hv]; exact ⟨_, rfl⟩
              · cases h
          · cases h
        · cases h
    exact sym _ _ _ _ _ h
  obtain ⟨b2, h2⟩ := h2
  exact part_of h2
theorem run_eqF (d : Nat) : ∀ (m : Nat) (t : TypeId) (cs es : List Value) (b : Bool) (w : World), eqF P m t cs es = some b → (Op.equalIn (d + m) t (valOf P t cs) (valOf P t es)).run P w = .ok b w := by
  intro m
  induction m with
  | zero => intro t cs es b w h; cases h
  | succ m ih =>
    intro t cs es b w h
    unfold eqF at h
    unfold valOf
    rw [show d + (m + 1) = (d + m) + 1 from rfl]
    cases hu : P.underlying t with
    | none => simp [hu] at h
    | some dd =>
      rw [hu] at h
      cases dd with
      | int k =>
        simp only at h ⊢
        split at h
        · split at h
          · rename_i hk
            cases h
            subst hk
            rw [List.headD_cons, List.headD_cons, run_equal_int hu]
            rfl
          · cases h
        · cases h
      | bool =>
        simp only at h ⊢
        split at h
        · cases h
          rw [List.headD_cons, List.headD_cons, run_equalIn_bool w _ _ _ _ hu]
        · cases h
      | struct fs =>
        simp only at h ⊢
        split at h
        · rename_i hc
          have hfs : P.fieldsOf t = fs := by simp [Program.fieldsOf, hu]
          rw [run_equalIn_struct w (d + m) t _ _ (by rw [hfs]; exact hu) hc.1, hfs]
          generalize fs.toList = l at h
          induction l generalizing b with
          | nil => cases h; simp [Op.eqFields]
          | cons f l ihl =>
            unfold eqFs at h
            split at h
            · cases h
            · rename_i hn
              split at h
              · rename_i a b' h1 h2
                cases h
                unfold Op.eqFields
                rw [if_pos hn]
                simp only [Sem.run_bind, part_of h1, part_of2 h1, Result.andThen_ok, ih _ _ _ _ w h1]
                cases a with
                | true => simpa using ihl _ h2
                | false => simp
              · cases h
        · cases h
      | array n e =>
        simp only at h ⊢
        split at h
        · rename_i hc
          have hn := hc.1
          have hie : ∃ i, P.info? e = some i := by
            have h0 : List.range n = 0 :: (List.range' 1 (n - 1)) := by
              rw [List.range_eq_range']
              cases n with
              | zero => exact absurd rfl hn
              | succ n => simp [List.range'_succ]
            rw [h0] at h
            unfold eqIs at h
            split at h
            · rename_i a b' h1 h2
              cases m with
              | zero => cases h1
              | succ m =>
                unfold eqF at h1
                cases hue : P.underlying e with
                | none => simp [hue] at h1
                | some _ => exact info_of_underlying hue
            · cases h
          obtain ⟨i, hi⟩ := hie
          rw [run_equalIn_array w (d + m) _ _ hu hi]
          generalize List.range n = l at h
          induction l generalizing b with
          | nil => cases h; simp [Op.eqItems]
          | cons j l ihl =>
            unfold eqIs at h
            split at h
            · rename_i a b' h1 h2
              cases h
              unfold Op.eqItems
              simp only [Sem.run_bind, part_of h1, part_of2 h1, Result.andThen_ok, ih _ _ _ _ w h1]
              cases a with
              | true => simpa using ihl _ h2
              | false => simp
            · cases h
        · cases h
      | _ => simp at h
end
section
variable {P : Program} {ops : Array Oper} {Q : Exit → Act → World → Prop} {n : Nat} {r : Regs} {ds : List Deferred} {W : World} {chg news : Blks} {rest : List Oper}
variable {d : Nat} {ty : TypeId} {pos : String} {after : Array Edge} {dst : Option Tmp} {gd : Option (Nat × Bool)}
/-- A type of structs or arrays that is compared without a guard. -/
def aggB (P : Program) (T : TypeId) : Bool := !P.eqGuardType P.depth T && match P.underlying T with | some (.struct _) => true | some (.array _ _) => true | _ => false
theorem aggB_spec {T : TypeId} (h : aggB P T = true) (cs : List Value) : P.eqGuardType P.depth T = false ∧ valOf P T cs = .agg cs.toArray := by
  simp only [aggB, Bool.and_eq_true, Bool.not_eq_true'] at h
  refine ⟨h.1, ?_⟩
  have h2 := h.2
  unfold valOf
  split at h2 <;> simp_all
theorem Val.eql_flat {x y : Operand} {T yt : TypeId} {cs es : List Value} {b : Bool} (hx : rev r x = some (.agg cs.toArray)) (hy : rev r y = some (.agg es.toArray)) (h : aggB P T = true) (he : eqF P 8 T cs es = some b) :
    Val P r W chg news { dst, op := .binOp .eql T x y yt, type := ty, pos, after, guard := gd } (.bool b) :=
  ⟨fun ac w ha _ => by
    have h1 := run_eqF 9992 8 T cs es b w he
    rw [(aggB_spec h cs).2, (aggB_spec h es).2] at h1
    have h2 : (Op.equal T (.agg cs.toArray) (.agg es.toArray)).run P w = .ok b w := h1
    simp [execOp, ha.eval hx, ha.eval hy, eqGuard, (aggB_spec h cs).1, binOp, h2]⟩
theorem Val.neq_flat {x y : Operand} {T yt : TypeId} {cs es : List Value} {b : Bool} (hx : rev r x = some (.agg cs.toArray)) (hy : rev r y = some (.agg es.toArray)) (h : aggB P T = true) (he : eqF P 8 T cs es = some b) :
    Val P r W chg news { dst, op := .binOp .neq T x y yt, type := ty, pos, after, guard := gd } (.bool (!b)) :=
  ⟨fun ac w ha _ => by
    have h1 := run_eqF 9992 8 T cs es b w he
    rw [(aggB_spec h cs).2, (aggB_spec h es).2] at h1
    have h2 : (Op.equal T (.agg cs.toArray) (.agg es.toArray)).run P w = .ok b w := h1
    simp [execOp, ha.eval hx, ha.eval hy, eqGuard, (aggB_spec h cs).1, binOp, h2]⟩
end
end Go.Eng
