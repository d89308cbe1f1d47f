/- Walks of the reference of layer 14: tours are read. -/
import Derived.Test.YtleamcmljcdapaaGreatDoorK05
set_option linter.unusedSimpArgs false
set_option linter.unusedVariables false
namespace Go.Eng
open Go Go.RowKit
theorem pick_bring2 (A X X2 Y C : Blks) : Pick (A ++ (Y ++ (X ++ (X2 ++ C)))) (A ++ (X ++ (X2 ++ (Y ++ C)))) := Pick.cnt fun x => by
  simp only [List.count_append]
  omega
theorem RunL.bringT2 {P : Program} {ops : Array Oper} {Q : Exit → Act → World → Prop} {n : Nat} {l : List Oper} {r : Regs} {ds : List Deferred} {W : World} {chg news : Blks} (A X X2 Y C : Blks) (hn : news = A ++ (X ++ (X2 ++ (Y ++ C)))) (h : RunL P ops Q n l r ds W chg (A ++ (Y ++ (X ++ (X2 ++ C))))) : RunL P ops Q n l r ds W chg news := by
  subst hn
  exact RunL.keep (Sub.refl _) (pick_bring2 A X X2 Y C) h
end Go.Eng
namespace Go.Bk
open Go Go.Eng Go.RowKit
theorem own_ptrB {sz : Nat} {x : Eng.Own} {k : Nat} {xs : List Value} (h : OwnOk sz x k xs) (hk : 0 < k) : ownQ x = some ⟨ownK x, 0, none⟩ := by
  obtain ⟨b, c, r, rfl, _⟩ := h.has hk
  rfl
theorem row_flat {α : Type} {l : List (OL α)} {a : OL α} : ((l ++ [a]).map rowC).flatten = (l.map rowC).flatten ++ rowC a := by simp
theorem cutL_len (a : UInt8) : ∀ s : Str, (cutL a s).length ≤ s.length + 1
  | [] => Nat.le_refl _
  | c :: s => by
    have ih := cutL_len a s
    by_cases h : c = a
    · subst h
      rw [cutL_hit]
      simp only [List.length_cons]
      omega
    · cases e : cutL a s with
      | nil => exact absurd e (cutL_ne _ _)
      | cons w r =>
        rw [e] at ih
        rw [cutL_cons h e]
        simp only [List.length_cons] at ih ⊢
        omega
theorem cutL_short (a : UInt8) : ∀ s : Str, ∀ w ∈ cutL a s, w.length ≤ s.length
  | [], w, h => by simp [cutL] at h; subst h; exact Nat.le_refl _
  | c :: s, w, h => by
    have ih := cutL_short a s
    by_cases hc : c = a
    · subst hc
      rw [cutL_hit] at h
      rcases List.mem_cons.1 h with rfl | h
      · exact Nat.zero_le _
      · exact Nat.le_succ_of_le (ih w h)
    · cases e : cutL a s with
      | nil => exact absurd e (cutL_ne _ _)
      | cons v r =>
        rw [cutL_cons hc e] at h
        rw [e] at ih
        rcases List.mem_cons.1 h with rfl | h
        · exact Nat.succ_le_succ (ih v (by simp))
        · exact Nat.le_succ_of_le (ih w (List.mem_cons_of_mem _ h))
theorem ownB_some14 {e : TypeId} {b c : Nat} {r xs : List Value} : ownB e (some (b, c, r)) xs = [(b, .cells (xs ++ r).toArray e (0, 0))] := rfl
theorem rows_end {s : Str} {L : List Str} (h : cutL 10 s = L) (hn : 0 < L.length) {u : Str} (hu : L[L.length - 1]'(by omega) = u) {zl : List (OL Str)} (h1 : zl.map (·.2) = (L.take (L.length - 1)).map (cutL 32)) (h2 : zl.length = L.length - 1) : (zl.map (·.2), decide (u = []) && decide (0 < (zl.length : Int))) = rowsR s := by
  unfold rowsR
  rw [h, h1, ← List.dropLast_eq_take, h2]
  have e1 : L.getLast? = some u := by rw [List.getLast?_eq_getElem?, List.getElem?_eq_getElem (by omega), hu]
  rw [e1]
  have e2 : decide (0 < ((L.length - 1 : Nat) : Int)) = decide (1 < L.length) := by
    congr 1
    exact propext ⟨fun h => by omega, fun h => by omega⟩
  rw [e2]
  simp
theorem take_map_s {α β : Type} {f : α → β} {l : List α} {k : Nat} (hk : k < l.length) {y : α} (hy : l[k] = y) : (l.take (k + 1)).map f = (l.take k).map f ++ [f y] := by
  rw [List.take_succ_eq_append_getElem hk, List.map_append, hy]
  rfl
/-- What is known of lines that are read. -/
structure RowsOk (ls : List (List Str)) : Prop where
  few : ls.length ≤ 5000
  ne : ∀ l ∈ ls, l ≠ []
  len : ∀ l ∈ ls, l.length ≤ 5000
  str : ∀ l ∈ ls, ∀ y ∈ l, y.length ≤ 5000
theorem rows_rok {s : Str} (hs : s.length ≤ 4096) : RowsOk (rowsR s).1 := by
  have h1 := cutL_len 10 s
  have h2 := cutL_short 10 s
  have hm : ∀ l ∈ (rowsR s).1, ∃ j : Str, j.length ≤ s.length ∧ l = cutL 32 j := fun l hl => by
    unfold rowsR at hl
    obtain ⟨j, hj, rfl⟩ := List.mem_map.1 hl
    exact ⟨j, h2 j (List.dropLast_subset _ hj), rfl⟩
  refine ⟨?_, fun l hl => ?_, fun l hl => ?_, fun l hl y hy => ?_⟩
  · unfold rowsR
    rw [List.length_map, List.length_dropLast]
    omega
  · obtain ⟨j, _, rfl⟩ := hm l hl; exact cutL_ne _ _
  · obtain ⟨j, hj, rfl⟩ := hm l hl; have := cutL_len 32 j; omega
  · obtain ⟨j, hj, rfl⟩ := hm l hl; have := cutL_short 32 j y hy; omega
theorem RowsOk.pos {ls : List (List Str)} (h : RowsOk ls) {l : List Str} (hl : l ∈ ls) : 0 < l.length := List.length_pos_iff.2 (h.ne l hl)
/-- Lines in memory. -/
abbrev LsA := SA (SA Str)
def LsA.pl (x : LsA) : List (List Str) := x.l.map (·.l)
structure LsOk (W : World) (x : LsA) : Prop where
  rows : x.ok SA.cell 1 W
  each : ∀ r ∈ x.l, r.ok strC 1 W
theorem LsOk.mono0 {W w : World} {x : LsA} {news : Blks} (h : LsOk W x) (hm : Mem W [] news w) : LsOk w x := ⟨SA.ok.mono0 h.rows (by decide) hm, fun r hr => SA.ok.mono0 (h.each r hr) (by decide) hm⟩
theorem ownB_none {e : TypeId} {xs : List Value} : ownB e none xs = [] := rfl
theorem lineV_len {α : Type} {f : Str → Option α} {ls : List Str} {w : Str} {l : List α} {b : Bool} (h : (l, b) = lineV f ls w) : l.length ≤ ls.length := by
  unfold lineV at h
  split at h
  · rename_i r hr
    cases h
    have := allP_len hr
    rw [List.length_drop] at this
    omega
  · cases h; exact Nat.zero_le _
theorem range_s14 {p : Nat → Bool} {k : Nat} : (List.range (k + 1)).all p = ((List.range k).all p && p k) := by simp [List.range_succ]
theorem rangeM_s {α : Type} {p : Nat → α} {k : Nat} : (List.range (k + 1)).map p = (List.range k).map p ++ [p k] := by simp [List.range_succ]
theorem tourV_0 {ls : List (List Str)} (h : ls.length < 4) : (tourV ls).2 = false := by unfold tourV; rw [if_pos h]
theorem tourV_1 {ls : List (List Str)} {l : List Int} {b : Bool} (e : (l, b) = lineV numO (ls.getD 0 []) wTour) (h : b = false ∨ ¬ (l.length : Int) = 1) : (tourV ls).2 = false := by
  unfold tourV
  split
  · rfl
  · rw [← e, if_pos (by rcases h with h | h; exact .inl h; exact .inr (by show l.length ≠ 1; omega))]
theorem tourV_2 {ls : List (List Str)} {l : List Sp} {b : Bool} (e : (l, b) = lineV spanO (ls.getD 1 []) wFrom) (h : b = false ∨ ¬ (ls.length : Int) = 4 + (l.length : Int)) : (tourV ls).2 = false := by
  unfold tourV
  split
  · rfl
  · split
    · rfl
    · rw [← e, if_pos (by rcases h with h | h; exact .inl h; exact .inr (by show ls.length ≠ 4 + l.length; omega))]
theorem tourV_3 {ls : List (List Str)} {d : Int} {l s g : List Sp} {i j : Bool} {ws : List (List Sp)} {b : Bool} (h4 : 4 ≤ ls.length) (e0 : ([d], true) = lineV numO (ls.getD 0 []) wTour) (e1 : (l, true) = lineV spanO (ls.getD 1 []) wFrom) (hl : ls.length = 4 + l.length) (es : (s, i) = lineV spanO (ls.getD (ls.length - 2) []) wStay) (eg : (g, j) = lineV spanO (ls.getD (ls.length - 1) []) wLight)
    (ew : ws = (List.range l.length).map fun i => (lineV spanO (ls.getD (2 + i) []) wWays).1) (eb : b = (List.range l.length).all fun i => (lineV spanO (ls.getD (2 + i) []) wWays).2) : tourV ls = (⟨d, l, ws, s, g⟩, b && i && j && tourX ⟨d, l, ws, s, g⟩) := by
  subst ew eb
  unfold tourV
  rw [if_neg (by omega), ← e0, if_neg (by simp), ← e1, if_neg (by simp; omega), ← es, ← eg]
  rfl
theorem pl_getD {x : LsA} {i : Nat} (hi : i < x.l.length) {r : SA Str} (hr : x.l[i] = r) : (LsA.pl x).getD i [] = r.l := by
  unfold LsA.pl
  rw [List.getD_eq_getElem?_getD, List.getElem?_map, List.getElem?_eq_getElem hi, hr]
  rfl
theorem pl_len (x : LsA) : (LsA.pl x).length = x.l.length := by unfold LsA.pl; rw [List.length_map]
theorem pl_mem {x : LsA} {r : SA Str} (h : r ∈ x.l) : r.l ∈ LsA.pl x := List.mem_map.2 ⟨r, h, rfl⟩
end Go.Bk
namespace Go.Proofs.YtleamcmljcdapaaGreatDoor
open Go Go.Eng Go.Bk Go.RowKit

def stRows (l : List (OL Str)) : Blks := (l.map fun r => stB r).flatten
theorem stRows_snoc (l : List (OL Str)) (r : OL Str) : stRows (l ++ [r]) = stRows l ++ stB r := by simp [stRows]
abbrev rwB (z : OL (OL Str)) : Blks := ownB 166 z.1 (z.2.map rowC).flatten
theorem rows_calls14 (s : Str) (hs : s.length ≤ 10000) (W : World) : Calls Tryz.prog 46 #[.string (bs s)] W (Grow W [] (fun z : OL (OL Str) × Bool => .tuple #[OL.v z.1, .bool z.2]) (fun z => rwB z.1 ++ (stRows z.1.2 ++ [])) (fun z => OL.ok z.1 rowC 1 ∧ (∀ r ∈ z.1.2, OL.ok r strC 1) ∧ (z.1.2.map (·.2), z.2) = rowsR s)) := by
  have hcl := cutL_len 10 s
  have hcn := List.length_pos_iff.2 (cutL_ne 10 s)
  obtain ⟨L, hLd⟩ : ∃ L, cutL 10 s = L := ⟨_, rfl⟩
  have hsh := cutL_short 10 s
  rw [hLd] at hcl hcn hsh
  refine calls_start Tryz.func46 rfl rfl ?_
  refine st ?_
  refine RunL.callNT (isCall_func rfl ent_105) rfl rfl rfl (fun w hm => grow_news (cut_calls14 s 10 (by omega) w)) (fun z8 => ?_)
  obtain ⟨⟨y8, l8⟩, o8, e8⟩ := z8
  dsimp only at e8
  rw [hLd] at e8
  subst e8
  have hy8 : OwnOk 1 y8 l8.length (l8.map strC).flatten := o8
  dsimp only [OL.v]
  refine vp rfl rfl rfl rfl ?_
  refine nsr ?_
  refine vp rfl rfl rfl rfl ?_
  refine nnx ?_
  refine RunC.seq ?_
  refine RunC.seq ?_
  rw [ownV_slice hy8]
  refine st ?_
  refine RunC.loopX (X := OL (OL Str)) (n0 := []) (l8.length - 1) (fun k x q => (6, .int .i64 (k : Int)) :: (5, ownV x.1 x.2.length) :: q) (fun _ _ => _) (fun k x => []) (fun k x => (ownB 9 y8 (l8.map strC).flatten ++ (ownB 166 x.1 (x.2.map rowC).flatten ++ (stRows x.2 ++ [])))) (fun k x => OL.ok x rowC 1 ∧ (∀ r ∈ x.2, OL.ok r strC 1) ∧ x.2.map (·.2) = (l8.take k).map (cutL 32) ∧ x.2.length = k) (none, []) ⟨ol_nil, fun r h => (by cases h), rfl, rfl⟩ rfl (Sub.consE (t := 6) rfl rfl (Sub.consE (t := 5) rfl rfl (Sub.cons (t := 4) rfl (Sub.nil _)))) (Pick.same rfl) ?_
  intro k x kN kI
  obtain ⟨zo, zl⟩ := x
  obtain ⟨hzo, kI1, kI2, kI3⟩ := kI
  dsimp only at kI1 kI2 kI3 ⊢
  refine st ?_
  refine lv (Val.add rfl rfl (IntWalk.i64_in _ ⟨by omega, by omega⟩)) ?_
  refine lv (Val.len_sl rfl sl_166) ?_
  refine cn rfl ?_ ?_
  ·intro c0'
   have hk : k < l8.length := by omega
   obtain ⟨v, hv⟩ : ∃ v, l8[k] = v := ⟨_, rfl⟩
   have hvl := hsh v (hv ▸ List.getElem_mem hk)
   refine st ?_
   refine lv (Val.indexAddr_slp rfl rfl sl_166 (by omega) (by omega) (own_ptrB hy8 hcn)) ?_
   refine lv (Val.load_gen rfl (fun w hm => Sl.loadM1 (own_sl (f := strC) (e := 9) (fun _ => rfl) (by decide) hy8 (fun b o h => hm.at (by simp [h]))) (by decide) (Mem.refl w) (by simp) ty_9 hk (v := .string (bs v)) (by simp [strC, hv]))) ?_
   refine RunL.callNA [] _ rfl (isCall_func rfl ent_105) rfl rfl rfl (fun w hm => grow_news (cut_calls14 v 32 (by omega) w)) (fun z21 => ?_)
   obtain ⟨⟨y21, l21⟩, o21, e21⟩ := z21
   dsimp only at e21
   subst e21
   have hy21 : OL.ok (y21, cutL 32 v) strC 1 := o21
   dsimp only [OL.v]
   refine RunL.new (New.buildSliceOwn (x := .tmp 21) rfl sl_84 zero_166) rfl rfl rfl (fun b22 => ?_)
   refine RunL.keep (Sub.refl _) (news' := [(b22, .cells [ownV y21 (cutL 32 v).length].toArray 166 (0, 0))] ++ (ownB 166 zo (zl.map rowC).flatten ++ (stB (y21, cutL 32 v) ++ (ownB 9 y8 (l8.map strC).flatten ++ (stRows zl ++ []))))) (Pick.cnt fun x => by simp only [nC, List.nil_append, rwB, stB, stRows_snoc, row_flat, ownB_some14]; omega) ?_
   refine RunL.append (A := [(b22, _)]) (B := _) (x := zo) (ys := rowC (y21, cutL 32 v)) ap_84 rfl rfl rfl hzo rfl (fun h => by cases h) (fun w hm => src_blk (hm.at (.head _))) (fun u hu => by simp only [rowC, List.mem_singleton] at hu; subst hu; exact own_one' _ _) (by simp only [maxLen]; show zl.length + 1 ≤ _; omega) (by show (zl.length + 1) * 24 ≤ 140737488355328; omega) rfl (fun z23 hz23 => ?_)
   refine st ?_
   refine lv (Val.add rfl rfl (IntWalk.i64_in _ ⟨by omega, by omega⟩)) ?_
   exact RunE.roundX (z23, zl ++ [(y21, cutL 32 v)]) (by omega) ⟨ol_snoc (z := zo) (f := rowC) (a := (y21, cutL 32 v)) hz23, (fun r hr => by rcases List.mem_append.1 hr with h | h; exact kI1 r h; rw [List.mem_singleton] at h; subst h; exact hy21), (by show (zl ++ _).map _ = _; rw [take_map_s hk hv, List.map_append, kI2]; rfl), by show (zl ++ _).length = _; rw [List.length_append, kI3]; rfl⟩ rfl (Sub.consE (t := 6) rfl rfl (Sub.consE (t := 5) rfl (by simp) (Sub.cons (t := 4) rfl (Sub.nil _)))) (Pick.cnt fun x => by simp only [nC, List.nil_append, rwB, stB, stRows_snoc, row_flat, ownB_some14]; omega)
  intro c0'
  obtain rfl : k = l8.length - 1 := by omega
  obtain ⟨u, hu⟩ : ∃ u, l8[l8.length - 1]'(by omega) = u := ⟨_, rfl⟩
  refine RunC.exit ?_
  refine RunE.pass_exit ?_
  refine RunE.pass_exit ?_
  refine RunE.block_here ?_
  refine st ?_
  refine lv (Val.len_sl rfl sl_166) ?_
  refine lv (Val.subN (a := l8.length) (b := 1) (l8.length - 1) rfl rfl (by omega) (i64_inN (by omega))) ?_
  refine lv (Val.indexAddr_slp rfl rfl sl_166 (by omega) (by omega) (own_ptrB hy8 hcn)) ?_
  refine lv (Val.load_gen rfl (fun w hm => Sl.loadM1 (own_sl (f := strC) (e := 9) (fun _ => rfl) (by decide) hy8 (fun b o h => hm.at (by simp [h]))) (by decide) (Mem.refl w) (by simp) ty_9 (show l8.length - 1 < l8.length by omega) (v := .string (bs u)) (by simp [strC, hu]))) ?_
  refine lv (Val.eqlStr rfl rfl) ?_
  refine RunL.andPart (dj := 32) (dp := 36) 4 rfl (fun g32 => by
    have g32' := g32
    try simp only [nH] at g32'
    refine st ?_
    refine RunL.val (Val.len_own rfl sl_84 hzo) rfl rfl rfl ?_
    refine sv ?_
    exact RunL.segEnd (Sub.cons rfl (Sub.skip rfl (Sub.skip rfl (Sub.skip rfl (Sub.skip rfl (Sub.same rfl (by rw [g32]) (Sub.refl _))))))) (List.Sublist.refl _)
  ) (fun g32 => by
    have g32' := g32
    try simp only [nH] at g32'
    iterate 3 refine RunL.no rfl rfl rfl ?_
    refine sv ?_
    exact RunL.segEnd (Sub.cons rfl (Sub.skip rfl (Sub.skip rfl (Sub.skip rfl (Sub.skip rfl (Sub.same rfl (by rw [g32]) (Sub.refl _))))))) (List.Sublist.refl _)
  ) ?_
  refine st ?_
  refine RunC.ret ?_
  exact RunE.retG ((zo, zl), decide (u = []) && decide (0 < (zl.length : Int))) ⟨hzo, kI1, rows_end hLd hcn hu kI2 kI3⟩ (.r2 rfl (.tmp rfl) (.tmp rfl)) rfl (Pick.cnt fun x => by simp only [nC, List.nil_append, rwB, stB, stRows_snoc, row_flat, ownB_some14]; omega)
theorem spRows_nil : spRows [] = [] := rfl
theorem rTourX_calls (x : TrX) (h : TrXOk 10000 x) (tl : Blks) (W0 w : World) (hm : Mem W0 [] (trB x ++ tl) w) : Calls Tryz.prog 32 #[.agg x.cells.toArray] w (Pure (.bool (tourX x.pl)) w) := by
  have h1 := rTour_calls x.toA (h.sm (Nat.le_refl _)) w (trX_ok h hm)
  rw [TrX.toA_pl] at h1
  have e : x.toA.v = .agg x.cells.toArray := by unfold TrA.v; rw [h.cells]
  rw [e] at h1
  exact h1
set_option maxHeartbeats 2000000 in
theorem tour_calls14 (ls : LsA) (W : World) (hx : LsOk W ls) (hr : RowsOk (LsA.pl ls)) (hL : Lw Tryz.prog W) : Calls Tryz.prog 47 #[ls.v] W (Grow W [] (fun z : TrX × Bool => .tuple #[.agg z.1.cells.toArray, .bool z.2]) (fun z => trB z.1 ++ []) (fun z => TrXOk 10000 z.1 ∧ z.2 = (tourV (LsA.pl ls)).2 ∧ (z.2 = true → z.1.pl = (tourV (LsA.pl ls)).1))) := by
  have hpl := pl_len ls
  have hfew := hr.few
  rw [hpl] at hfew
  have hrow : ∀ {i : Nat} (hi : i < ls.l.length) {r : SA Str} (_ : ls.l[i] = r) {w : World} {news : Blks}, Mem W [] news w → (LsA.pl ls).getD i [] = r.l ∧ r.ok strC 1 w ∧ 0 < r.l.length ∧ r.l.length ≤ 5000 ∧ ∀ y ∈ r.l, y.length ≤ 5000 := fun {i} hi {r} e {w} {news} hm => by
    have hm1 : r ∈ ls.l := e ▸ List.getElem_mem hi
    exact ⟨pl_getD hi e, SA.ok.mono0 (hx.each r hm1) (by decide) hm, hr.pos (pl_mem hm1), hr.len _ (pl_mem hm1), hr.str _ (pl_mem hm1)⟩
  refine calls_start Tryz.func47 rfl rfl ?_
  refine csr ?_
  refine RunL.new (New.alloc zero_25) rfl rfl rfl (fun b2 => ?_)
  refine vp rfl rfl rfl rfl ?_
  refine nsr ?_
  refine RunL.new (New.alloc zero_25) rfl rfl rfl (fun b4 => ?_)
  refine nnx ?_
  refine RunC.seq ?_
  refine csr ?_
  refine vp rfl rfl rfl rfl ?_
  refine RunL.val (Val.len_sl rfl sl_84) rfl rfl rfl ?_
  refine vp rfl rfl rfl rfl ?_
  refine nnx ?_
  refine RunC.cond rfl ?_ ?_
  ·intro c0
   have c0' := c0; clear c0
   try simp only [nH] at c0'
   refine csr ?_
   refine RunL.val (Val.load_agg rfl (.head _) ty_25 rfl) rfl rfl rfl ?_
   refine RunL.sto (Sto.store rfl rfl (.there .here) ty_25 rfl rfl) rfl rfl ?_
   refine vp rfl rfl rfl rfl ?_
   refine nnx ?_
   refine RunC.ret ?_
   refine RunE.pass_ret ?_
   exact RunE.retG (zeroTX, false) ⟨zeroTX_ok.le (by decide), (tourV_0 (by omega)).symm, fun h => by cases h⟩ (.r2 rfl (.agg rfl (.tail _ (.head _)) ty_25 rfl) (.tmp rfl)) rfl (show Pick [] _ from .nil)
  intro c0
  have c0' := c0; clear c0
  try simp only [nH] at c0'
  have h4 : 4 ≤ ls.l.length := by omega
  obtain ⟨r0, hr0⟩ : ∃ r, ls.l[0] = r := ⟨_, rfl⟩
  obtain ⟨r1, hr1⟩ : ∃ r, ls.l[1] = r := ⟨_, rfl⟩
  obtain ⟨r3, hr3⟩ : ∃ r, ls.l[ls.l.length - 2] = r := ⟨_, rfl⟩
  obtain ⟨r4, hr4⟩ : ∃ r, ls.l[ls.l.length - 1] = r := ⟨_, rfl⟩
  refine RunC.skip ?_
  refine RunE.next ?_
  refine csr ?_
  refine vp rfl rfl rfl rfl ?_
  refine RunL.val (Val.indexAddr_slp rfl rfl sl_84 (by omega) (by omega) (Sl.ptrM hx.rows (i := 0) (by omega))) rfl rfl rfl ?_
  refine RunL.val (Val.load_gen rfl (fun w hm => Sl.loadM1 hx.rows (by decide) hm (by simp) ty_166 (show 0 < ls.l.length by omega) (v := r0.v) (by simp [SA.cell, hr0]))) rfl rfl rfl ?_
  refine RunL.callNT (isCall_func rfl ent_106) rfl rfl rfl (fun w hm => (let h9 := hrow (i := 0) (by omega) hr0 hm; grow_news (readNums_calls14 r0 w h9.2.1 h9.2.2.1 (by omega) wTour (hL.mono hm)))) (fun z20 => ?_)
  obtain ⟨⟨⟨y20, l20⟩, i20⟩, o20, e20⟩ := z20
  dsimp only at e20
  have hy20 : OwnOk 1 y20 l20.length (l20.map intC).flatten := o20
  rw [← pl_getD (i := 0) (by omega) hr0] at e20
  dsimp only [OL.v]
  iterate 5 refine vp rfl rfl rfl rfl ?_
  refine nnx ?_
  refine RunC.seq ?_
  refine csr ?_
  iterate 3 refine vp rfl rfl rfl rfl ?_
  refine RunL.orPart (dj := 25) (dp := 29) 4 rfl (fun g25 => by
    have g25' := g25
    try simp only [nH] at g25'
    refine vp rfl rfl rfl rfl ?_
    refine RunL.val (Val.len_own rfl sl_27 hy20) rfl rfl rfl ?_
    refine vp rfl rfl rfl rfl ?_
    refine vp rfl rfl rfl rfl ?_
    exact RunL.segEnd (Sub.cons rfl (Sub.skip rfl (Sub.skip rfl (Sub.skip rfl (Sub.skip rfl (Sub.same rfl (by rw [g25]) (Sub.refl _))))))) (List.Sublist.refl _)
  ) (fun g25 => by
    have g25' := g25
    try simp only [nH] at g25'
    iterate 3 refine RunL.no rfl rfl rfl ?_
    refine vp rfl rfl rfl rfl ?_
    exact RunL.segEnd (Sub.cons rfl (Sub.skip rfl (Sub.skip rfl (Sub.skip rfl (Sub.skip rfl (Sub.same rfl (by rw [g25]) (Sub.refl _))))))) (List.Sublist.refl _)
  ) ?_
  refine nnx ?_
  refine RunC.cond rfl ?_ ?_
  ·intro c1
   have c1' := c1; clear c1
   try simp only [nH] at c1'
   refine csr ?_
   refine RunL.val (Val.load_agg rfl (.head _) ty_25 rfl) rfl rfl rfl ?_
   refine RunL.sto (Sto.store rfl rfl (.there .here) ty_25 rfl rfl) rfl rfl ?_
   refine vp rfl rfl rfl rfl ?_
   refine nnx ?_
   refine RunC.ret ?_
   refine RunE.pass_ret ?_
   exact RunE.retG (zeroTX, false) ⟨zeroTX_ok.le (by decide), (tourV_1 e20 c1').symm, fun h => by cases h⟩ (.r2 rfl (.agg rfl (.tail _ (.head _)) ty_25 rfl) (.tmp rfl)) rfl (show Pick [] _ from .nil)
  intro c1
  have c1' := c1; clear c1
  try simp only [nH] at c1'
  obtain ⟨hi20, hc20⟩ := c1'
  subst hi20
  obtain ⟨d, rfl⟩ := List.length_eq_one_iff.1 (show l20.length = 1 by omega)
  refine RunC.skip ?_
  refine RunE.next ?_
  refine csr ?_
  refine vp rfl rfl rfl rfl ?_
  obtain ⟨by20, cy20, ry20, rfl, ly201, ly202, ly203⟩ := hy20.has (by simp)
  refine RunL.val (Val.indexAddr_sl rfl rfl sl_27 (by omega) (by omega)) rfl rfl rfl ?_
  refine RunL.val (Val.load_gen rfl (fun w hm => Sl.loadM1 (Sl.rowsR (xs := [d].map intC) (t := ry20) (hm.at (.tail _ (.tail _ (.head _)))) (fun x hx => by obtain ⟨y, _, rfl⟩ := List.mem_map.1 hx; rfl) : Sl w _ by20 0 1 ([d].map intC)) (by decide) (Mem.refl w) (by simp) ty_3 (i := 0) (by simp) (v := .int .i64 d) (by simp [intC]))) rfl rfl rfl ?_
  refine RunL.val (Val.fieldAddr rfl fld_25_0) rfl rfl rfl ?_
  refine RunL.sto (Sto.store rfl rfl .here ty_3 rfl rfl) rfl rfl ?_
  refine nsr ?_
  refine vp rfl rfl rfl rfl ?_
  refine RunL.val (Val.indexAddr_slp rfl rfl sl_84 (by omega) (by omega) (Sl.ptrM hx.rows (i := 1) (by omega))) rfl rfl rfl ?_
  refine RunL.val (Val.load_gen rfl (fun w hm => Sl.loadM1 hx.rows (by decide) hm (by simp) ty_166 (show 1 < ls.l.length by omega) (v := r1.v) (by simp [SA.cell, hr1]))) rfl rfl rfl ?_
  refine RunL.callNT (isCall_func rfl ent_107) rfl rfl rfl (fun w hm => (let h9 := hrow (i := 1) (by omega) hr1 hm; grow_news (readSpans_calls14 r1 w h9.2.1 h9.2.2.1 (by omega) (fun y hy => Nat.le_trans (h9.2.2.2.2 y hy) (by decide)) wFrom (hL.mono hm)))) (fun z39 => ?_)
  obtain ⟨⟨⟨y39, l39⟩, i39⟩, o39, e39⟩ := z39
  dsimp only at e39
  have hy39 : OL.ok (y39, l39) Sp.cells 2 := o39
  have hl39 : l39.length ≤ 5000 := Nat.le_trans (lineV_len e39) (hr.len _ (pl_mem (hr1 ▸ List.getElem_mem _)))
  rw [← pl_getD (i := 1) (by omega) hr1] at e39
  dsimp only [OL.v]
  iterate 3 refine vp rfl rfl rfl rfl ?_
  refine RunL.val (Val.fieldAddr rfl fld_25_1) rfl rfl rfl ?_
  refine RunL.sto (Sto.storeOwn rfl rfl .here ty_22 rfl rfl) rfl rfl ?_
  refine vp rfl rfl rfl rfl ?_
  refine nnx ?_
  refine RunC.seq ?_
  refine csr ?_
  iterate 3 refine vp rfl rfl rfl rfl ?_
  refine RunL.orPart (dj := 45) (dp := 53) 8 rfl (fun g45 => by
    have g45' := g45
    try simp only [nH] at g45'
    refine vp rfl rfl rfl rfl ?_
    refine RunL.val (Val.len_sl rfl sl_84) rfl rfl rfl ?_
    refine RunL.val (Val.fieldAddr rfl fld_25_1) rfl rfl rfl ?_
    refine RunL.val (Val.load_one rfl (.head _) ty_22 rfl) rfl rfl rfl ?_
    refine RunL.val (Val.len_own rfl sl_22 hy39) rfl rfl rfl ?_
    refine RunL.val (Val.add rfl rfl (IntWalk.i64_in _ ⟨by omega, by omega⟩)) rfl rfl rfl ?_
    refine vp rfl rfl rfl rfl ?_
    refine vp rfl rfl rfl rfl ?_
    exact RunL.segEnd (Sub.cons rfl (Sub.skip rfl (Sub.skip rfl (Sub.skip rfl (Sub.skip rfl (Sub.skip rfl (Sub.skip rfl (Sub.skip rfl (Sub.skip rfl (Sub.same rfl (by rw [g45]) (Sub.refl _))))))))))) (List.Sublist.refl _)
  ) (fun g45 => by
    have g45' := g45
    try simp only [nH] at g45'
    iterate 7 refine RunL.no rfl rfl rfl ?_
    refine vp rfl rfl rfl rfl ?_
    exact RunL.segEnd (Sub.cons rfl (Sub.skip rfl (Sub.skip rfl (Sub.skip rfl (Sub.skip rfl (Sub.skip rfl (Sub.skip rfl (Sub.skip rfl (Sub.skip rfl (Sub.same rfl (by rw [g45]) (Sub.refl _))))))))))) (List.Sublist.refl _)
  ) ?_
  refine nnx ?_
  refine RunC.cond rfl ?_ ?_
  ·intro c2
   have c2' := c2; clear c2
   try simp only [nH] at c2'
   refine csr ?_
   refine RunL.val (Val.load_agg rfl (.head _) ty_25 rfl) rfl rfl rfl ?_
   refine RunL.sto (Sto.store (cs := zsrdT) (cs' := (TrX.mk d (y39, l39) (none, []) (none, []) (none, [])).cells) rfl rfl (.there .here) ty_25 rfl (paste_over rfl (one_trX (TrX.mk d (y39, l39) (none, []) (none, []) (none, []))))) rfl rfl ?_
   refine vp rfl rfl rfl rfl ?_
   refine nnx ?_
   refine RunC.ret ?_
   refine RunE.pass_ret ?_
   exact RunE.retG (TrX.mk d (y39, l39) (none, []) (none, []) (none, []), false) ⟨⟨hy39, ol_nil, fun r h => (by cases h), ol_nil, ol_nil, Nat.zero_le _, by show l39.length ≤ _; omega, Nat.zero_le _, Nat.zero_le _, fun r h => (by cases h)⟩, (tourV_2 e39 (by rcases c2' with h | h; exact .inl h; exact .inr (by omega))).symm, fun h => by cases h⟩ (.r2 rfl (.agg rfl (.tail _ (.head _)) ty_25 rfl) (.tmp rfl)) rfl (Pick.cnt fun x => by simp only [nC, List.nil_append, List.append_nil, spRows_nil, trB, spB, waB, ownB_none, ownB_some14, spRows_snoc, row_flat]; omega)
  intro c2
  have c2' := c2; clear c2
  try simp only [nH] at c2'
  obtain ⟨hi39, hc39⟩ := c2'
  subst hi39
  have hl4 : ls.l.length = 4 + l39.length := by omega
  refine RunC.skip ?_
  refine RunE.next ?_
  refine RunC.seq ?_
  refine csr ?_
  refine vp rfl rfl rfl rfl ?_
  refine nnx ?_
  refine RunC.block ?_
  refine RunC.loopX (X := OL (OL Sp) × Bool) (n0 := [(b2, _)]) (l39.length) (fun k x q => (7, .int .i64 (k : Int)) :: (6, .bool x.2) :: q) (fun _ _ => _) (fun k x => [(b4, .cells [.int .i64 d, ownV y39 l39.length, ownV x.1.1 x.1.2.length, .slice none 0 0, .slice none 0 0].toArray 25 (0, 0))]) (fun k x => (spB (y39, l39) ++ (ownB 22 x.1.1 (x.1.2.map rowC).flatten ++ (spRows x.1.2 ++ [])))) (fun k x => OL.ok x.1 rowC 1 ∧ (∀ r ∈ x.1.2, OL.ok r Sp.cells 2 ∧ r.2.length ≤ 5000) ∧ x.1.2.map (·.2) = (List.range k).map (fun i => (lineV spanO ((LsA.pl ls).getD (2 + i) []) wWays).1) ∧ x.2 = ((List.range k).all fun i => (lineV spanO ((LsA.pl ls).getD (2 + i) []) wWays).2) ∧ x.1.2.length = k) ((none, []), true) ⟨ol_nil, fun r h => (by cases h), rfl, rfl, rfl⟩ rfl (Sub.consE (t := 7) rfl rfl (Sub.consE (t := 6) rfl rfl (Sub.cons (t := 0) rfl (Sub.cons (t := 2) rfl (Sub.cons (t := 4) rfl (Sub.nil _)))))) (.cons .here rfl (.cons .here rfl (Pick.skip (Pick.same rfl)))) ?_
  intro k x kN kI
  obtain ⟨⟨wo, wl⟩, wi⟩ := x
  obtain ⟨hwo, kI1, kI2, kI3, kI4⟩ := kI
  dsimp only at kI1 kI2 kI3 kI4 ⊢
  refine RunC.seq ?_
  refine csr ?_
  refine vp rfl rfl rfl rfl ?_
  refine RunL.val (Val.fieldAddr rfl fld_25_1) rfl rfl rfl ?_
  refine RunL.val (Val.load_one rfl (.head _) ty_22 rfl) rfl rfl rfl ?_
  refine RunL.val (Val.len_own rfl sl_22 hy39) rfl rfl rfl ?_
  refine vp rfl rfl rfl rfl ?_
  refine nnx ?_
  refine RunC.cond rfl ?_ ?_
  ·intro c3
   have c3' := c3; clear c3
   try simp only [nH] at c3'
   have hk : k < l39.length := by omega
   obtain ⟨r2, hr2⟩ : ∃ r, ls.l[2 + k]'(by omega) = r := ⟨_, rfl⟩
   refine RunC.skip ?_
   refine RunE.next ?_
   refine RunC.seq ?_
   refine RunC.block ?_
   refine csr ?_
   refine vp rfl rfl rfl rfl ?_
   refine vp rfl rfl rfl rfl ?_
   refine RunL.val (Val.addN (a := 2) (b := k) (2 + k) rfl rfl rfl (i64_inN (by omega))) rfl rfl rfl ?_
   refine RunL.val (Val.indexAddr_slp rfl rfl sl_84 (by omega) (by omega) (Sl.ptrM hx.rows (i := 2 + k) (by omega))) rfl rfl rfl ?_
   refine RunL.val (Val.load_gen rfl (fun w hm => Sl.loadM1 hx.rows (by decide) hm (by simp) ty_166 (show 2 + k < ls.l.length by omega) (v := r2.v) (by simp [SA.cell, hr2]))) rfl rfl rfl ?_
   refine RunL.callNA [(b4, _), (b2, _)] _ rfl (isCall_func rfl ent_107) rfl rfl rfl (fun w hm => (let h9 := hrow (i := 2 + k) (by omega) hr2 hm; grow_news (readSpans_calls14 r2 w h9.2.1 h9.2.2.1 (by omega) (fun y hy => Nat.le_trans (h9.2.2.2.2 y hy) (by decide)) wWays (hL.mono hm)))) (fun z68 => ?_)
   obtain ⟨⟨⟨y68, l68⟩, i68⟩, o68, e68⟩ := z68
   dsimp only at e68
   have hy68 : OL.ok (y68, l68) Sp.cells 2 := o68
   have hl68 : l68.length ≤ 5000 := Nat.le_trans (lineV_len e68) (hr.len _ (pl_mem (hr2 ▸ List.getElem_mem _)))
   rw [← pl_getD (i := 2 + k) (by omega) hr2] at e68
   dsimp only [OL.v]
   iterate 5 refine vp rfl rfl rfl rfl ?_
   refine nsr ?_
   refine vp rfl rfl rfl rfl ?_
   refine vp rfl rfl rfl rfl ?_
   refine RunL.andPart (dj := 72) (dp := 74) 2 rfl (fun g72 => by
     have g72' := g72
     try simp only [nH] at g72'
     refine vp rfl rfl rfl rfl ?_
     refine vp rfl rfl rfl rfl ?_
     exact RunL.segEnd (Sub.cons rfl (Sub.skip rfl (Sub.skip rfl (Sub.same rfl (by rw [g72]) (Sub.refl _))))) (List.Sublist.refl _)
   ) (fun g72 => by
     have g72' := g72
     try simp only [nH] at g72'
     refine RunL.no rfl rfl rfl ?_
     refine vp rfl rfl rfl rfl ?_
     exact RunL.segEnd (Sub.cons rfl (Sub.skip rfl (Sub.skip rfl (Sub.same rfl (by rw [g72]) (Sub.refl _))))) (List.Sublist.refl _)
   ) ?_
   refine vp rfl rfl rfl rfl ?_
   refine nnx ?_
   refine RunC.region ?_
   refine RunL.val (Val.fieldAddr rfl fld_25_2) rfl rfl rfl ?_
   refine RunL.val (Val.load_one rfl (.head _) ty_23 rfl) rfl rfl rfl ?_
   refine vp rfl rfl rfl rfl ?_
   refine RunL.new (New.buildSliceOwn (x := .tmp 77) rfl sl_23 zero_22) rfl rfl rfl (fun b78 => ?_)
   refine RunL.bringT2 [(b78, _), (b4, _), (b2, _)] (spB (y68, l68)) _ _ _ rfl ?_
   refine RunL.append (A := [(b78, _), (b4, _), (b2, _)]) (B := _) (x := wo) (ys := rowC (y68, l68)) ap_23 rfl rfl rfl hwo rfl (fun h => by cases h) (fun w hm => src_blk (hm.at (.head _))) (fun u hu => by simp only [rowC, List.mem_singleton] at hu; subst hu; exact own_one' _ _) (by simp only [maxLen]; show wl.length + 1 ≤ _; omega) (by show (wl.length + 1) * 24 ≤ 140737488355328; omega) rfl (fun z79 hz79 => ?_)
   refine RunL.val (Val.fieldAddr rfl fld_25_2) rfl rfl rfl ?_
   refine RunL.sto (Sto.storeOwn rfl rfl (.there .here) ty_23 rfl rfl) rfl rfl ?_
   refine RunL.nil ?_
   refine RunE.block_normal ?_
   refine RunE.next ?_
   refine RunC.region ?_
   refine vp rfl rfl rfl rfl ?_
   refine RunL.val (Val.add rfl rfl (IntWalk.i64_in _ ⟨by omega, by omega⟩)) rfl rfl rfl ?_
   refine vp rfl rfl rfl rfl ?_
   refine RunL.nil ?_
   exact RunE.roundX ((z79, wl ++ [(y68, l68)]), wi && i68) (by omega) ⟨ol_snoc (z := wo) (f := rowC) (a := (y68, l68)) hz79, (fun r hr => by rcases List.mem_append.1 hr with h | h; exact kI1 r h; rw [List.mem_singleton] at h; subst h; exact ⟨hy68, hl68⟩), (by show (wl ++ _).map _ = _; rw [rangeM_s, ← e68, List.map_append, kI2]; rfl), (by rw [range_s14, ← e68, kI3]), by show (wl ++ _).length = _; rw [List.length_append, kI4]; rfl⟩ rfl (Sub.consE (t := 7) rfl rfl (Sub.consE (t := 6) rfl rfl (Sub.cons (t := 0) rfl (Sub.cons (t := 2) rfl (Sub.cons (t := 4) rfl (Sub.nil _)))))) (.cons (.there .here) (by simp) (.cons (.there .here) rfl (Pick.cnt fun x => by simp only [nC, List.nil_append, List.append_nil, spRows_nil, trB, spB, waB, ownB_none, ownB_some14, spRows_snoc, row_flat]; omega)))
  intro c3
  have c3' := c3; clear c3
  try simp only [nH] at c3'
  obtain rfl : k = l39.length := by omega
  refine RunC.exit ?_
  refine RunE.pass_exit ?_
  refine RunE.pass_exit ?_
  refine RunE.block_here ?_
  refine RunE.next ?_
  refine csr ?_
  refine vp rfl rfl rfl rfl ?_
  refine vp rfl rfl rfl rfl ?_
  refine nsr ?_
  refine vp rfl rfl rfl rfl ?_
  refine vp rfl rfl rfl rfl ?_
  refine RunL.val (Val.len_sl rfl sl_84) rfl rfl rfl ?_
  refine RunL.val (Val.subN (a := ls.l.length) (b := 2) (ls.l.length - 2) rfl rfl (by omega) (i64_inN (by omega))) rfl rfl rfl ?_
  refine RunL.val (Val.indexAddr_slp rfl rfl sl_84 (by omega) (by omega) (Sl.ptrM hx.rows (i := ls.l.length - 2) (by omega))) rfl rfl rfl ?_
  refine RunL.val (Val.load_gen rfl (fun w hm => Sl.loadM1 hx.rows (by decide) hm (by simp) ty_166 (show ls.l.length - 2 < ls.l.length by omega) (v := r3.v) (by simp [SA.cell, hr3]))) rfl rfl rfl ?_
  refine RunL.callNA [(b4, _), (b2, _)] _ rfl (isCall_func rfl ent_107) rfl rfl rfl (fun w hm => (let h9 := hrow (i := ls.l.length - 2) (by omega) hr3 hm; grow_news (readSpans_calls14 r3 w h9.2.1 h9.2.2.1 (by omega) (fun y hy => Nat.le_trans (h9.2.2.2.2 y hy) (by decide)) wStay (hL.mono hm)))) (fun z88 => ?_)
  obtain ⟨⟨⟨y88, l88⟩, i88⟩, o88, e88⟩ := z88
  dsimp only at e88
  have hy88 : OL.ok (y88, l88) Sp.cells 2 := o88
  have hl88 : l88.length ≤ 5000 := Nat.le_trans (lineV_len e88) (hr.len _ (pl_mem (hr3 ▸ List.getElem_mem _)))
  rw [← pl_getD (i := ls.l.length - 2) (by omega) hr3, ← hpl] at e88
  dsimp only [OL.v]
  iterate 3 refine vp rfl rfl rfl rfl ?_
  refine RunL.val (Val.fieldAddr rfl fld_25_3) rfl rfl rfl ?_
  refine RunL.sto (Sto.storeOwn rfl rfl .here ty_22 rfl rfl) rfl rfl ?_
  refine vp rfl rfl rfl rfl ?_
  refine nsr ?_
  refine vp rfl rfl rfl rfl ?_
  refine vp rfl rfl rfl rfl ?_
  refine RunL.val (Val.len_sl rfl sl_84) rfl rfl rfl ?_
  refine RunL.val (Val.subN (a := ls.l.length) (b := 1) (ls.l.length - 1) rfl rfl (by omega) (i64_inN (by omega))) rfl rfl rfl ?_
  refine RunL.val (Val.indexAddr_slp rfl rfl sl_84 (by omega) (by omega) (Sl.ptrM hx.rows (i := ls.l.length - 1) (by omega))) rfl rfl rfl ?_
  refine RunL.val (Val.load_gen rfl (fun w hm => Sl.loadM1 hx.rows (by decide) hm (by simp) ty_166 (show ls.l.length - 1 < ls.l.length by omega) (v := r4.v) (by simp [SA.cell, hr4]))) rfl rfl rfl ?_
  refine RunL.callNA [(b4, _), (b2, _)] _ rfl (isCall_func rfl ent_107) rfl rfl rfl (fun w hm => (let h9 := hrow (i := ls.l.length - 1) (by omega) hr4 hm; grow_news (readSpans_calls14 r4 w h9.2.1 h9.2.2.1 (by omega) (fun y hy => Nat.le_trans (h9.2.2.2.2 y hy) (by decide)) wLight (hL.mono hm)))) (fun z99 => ?_)
  obtain ⟨⟨⟨y99, l99⟩, i99⟩, o99, e99⟩ := z99
  dsimp only at e99
  have hy99 : OL.ok (y99, l99) Sp.cells 2 := o99
  have hl99 : l99.length ≤ 5000 := Nat.le_trans (lineV_len e99) (hr.len _ (pl_mem (hr4 ▸ List.getElem_mem _)))
  rw [← pl_getD (i := ls.l.length - 1) (by omega) hr4, ← hpl] at e99
  dsimp only [OL.v]
  iterate 3 refine vp rfl rfl rfl rfl ?_
  refine RunL.val (Val.fieldAddr rfl fld_25_4) rfl rfl rfl ?_
  refine RunL.sto (Sto.storeOwn rfl rfl .here ty_22 rfl rfl) rfl rfl ?_
  refine vp rfl rfl rfl rfl ?_
  refine nnx ?_
  refine RunC.seq ?_
  have hTX : TrXOk 10000 ⟨d, (y39, l39), (wo, wl), (y88, l88), (y99, l99)⟩ := ⟨hy39, hwo, fun r hr => (kI1 r hr).1, hy88, hy99, by show wl.length ≤ _; omega, by show l39.length ≤ _; omega, by show l88.length ≤ _; omega, by show l99.length ≤ _; omega, fun r hr => Nat.le_trans (kI1 r hr).2 (by decide)⟩
  have hTV := tourV_3 (by omega) e20 e39 (by omega) e88 e99 kI2 kI3
  refine RunC.drawX (X := Unit) 13 (n0 := []) (fun u q => (3, .bool (wi && i88 && i99 && tourX (TrX.mk d (y39, l39) (wo, wl) (y88, l88) (y99, l99)).pl)) :: q) (fun u => []) (fun u => [(b2, .cells (TrX.mk d (y39, l39) (wo, wl) (y88, l88) (y99, l99)).cells.toArray 25 (0, 0))]) (fun u => trB (TrX.mk d (y39, l39) (wo, wl) (y88, l88) (y99, l99)) ++ []) (fun u => True) fol_ (.cons .here rfl .nil) (Sub.cons (t := 2) rfl (Sub.nil _)) .nil ?_ ?_
  ·refine va 0 rfl (Val.load_agg rfl (.head _) ty_25 rfl) rfl rfl rfl (.cons .here rfl .nil) rfl ?_
   refine va 1 rfl (Val.pure rfl) rfl rfl rfl (.cons .here rfl .nil) rfl ?_
   refine va 2 rfl (Val.pure rfl) rfl rfl rfl (.cons .here rfl .nil) rfl ?_
   refine RunA.ways (dj := 105) rfl ?_ ?_
   ·intro g105
    have g105' := g105; clear g105
    try simp only [nH] at g105'
    refine va 3 rfl (Val.pure rfl) rfl rfl rfl (.cons .here rfl .nil) rfl ?_
    refine va 4 rfl (Val.pure rfl) rfl rfl rfl (.cons .here rfl .nil) rfl ?_
    refine va 5 rfl (Val.pure rfl) rfl rfl rfl (.cons .here rfl .nil) rfl ?_
    refine RunA.ways (dj := 108) rfl ?_ ?_
    ·intro g108
     have g108' := g108; clear g108
     try simp only [nH] at g108'
     refine va 6 rfl (Val.pure rfl) rfl rfl rfl (.cons .here rfl .nil) rfl ?_
     refine va 7 rfl (Val.pure rfl) rfl rfl rfl (.cons .here rfl .nil) rfl ?_
     refine va 8 rfl (Val.pure rfl) rfl rfl rfl (.cons .here rfl .nil) rfl ?_
     refine RunA.ways (dj := 111) rfl ?_ ?_
     ·intro g111
      have g111' := g111; clear g111
      try simp only [nH] at g111'
      refine va 9 rfl (Val.load_agg rfl (.head _) ty_25 rfl) rfl rfl rfl (.cons .here rfl .nil) rfl ?_
      refine RunA.one (i := 10) (by kernel_rfl) (by kernel_rfl) ?_
      refine RunI.callP rfl (isCall_func rfl ent_32) rfl rfl rfl (fun w hm => (rTourX_calls ⟨d, (y39, l39), (wo, wl), (y88, l88), (y99, l99)⟩ hTX [] W w (hm.pick (news' := trB ⟨d, (y39, l39), (wo, wl), (y88, l88), (y99, l99)⟩ ++ []) (Pick.cnt fun x => by simp only [nC, List.nil_append, List.append_nil, spRows_nil, trB, spB, waB, ownB_none, ownB_some14, spRows_snoc, row_flat]; omega)))) (RunK.toA (.cons .here rfl .nil) (.cons .here rfl .nil) rfl ?_)
      refine va 11 rfl (Val.pure rfl) rfl rfl rfl (.cons .here rfl .nil) rfl ?_
      refine RunA.one (i := 12) (by kernel_rfl) (by kernel_rfl) ?_
      refine RunI.sto rfl (Sto.store (cs := zsrdT) (cs' := (TrX.mk d (y39, l39) (wo, wl) (y88, l88) (y99, l99)).cells) rfl rfl (.there .here) ty_25 rfl (paste_over rfl (one_trX (TrX.mk d (y39, l39) (wo, wl) (y88, l88) (y99, l99))))) rfl rfl (RunK.toA (.cons .here rfl .nil) (.cons .here rfl .nil) rfl ?_)
      refine RunA.toB (by kernel_rfl) ?_
      refine RunB.one (i := 13) (by kernel_rfl) ?_
      refine RunI.val rfl (Val.pure rfl) rfl rfl rfl (RunK.toB ?_)
      refine RunB.done (by kernel_rfl) ?_
      exact RunE.joinX () trivial rfl (Sub.consE (t := 3) rfl (by simp_all) (Sub.cons (t := 2) rfl (Sub.nil _))) (.cons (.there .here) rfl (Pick.cnt fun x => by simp only [nC, List.nil_append, List.append_nil, spRows_nil, trB, spB, waB, ownB_none, ownB_some14, spRows_snoc, row_flat]; omega))
     intro g111
     have g111' := g111; clear g111
     try simp only [nH] at g111'
     refine RunA.no (i := 9) rfl (by kernel_rfl) (by kernel_rfl) rfl rfl rfl (fun _ _ _ h => h) (.cons .here rfl .nil) rfl ?_
     refine RunA.one (i := 10) (by kernel_rfl) (by kernel_rfl) ?_
     refine RunI.no rfl rfl rfl rfl (RunK.toA (.cons .here rfl .nil) (.cons .here rfl .nil) rfl ?_)
     refine va 11 rfl (Val.pure rfl) rfl rfl rfl (.cons .here rfl .nil) rfl ?_
     refine RunA.one (i := 12) (by kernel_rfl) (by kernel_rfl) ?_
     refine RunI.sto rfl (Sto.store (cs := zsrdT) (cs' := (TrX.mk d (y39, l39) (wo, wl) (y88, l88) (y99, l99)).cells) rfl rfl (.there .here) ty_25 rfl (paste_over rfl (one_trX (TrX.mk d (y39, l39) (wo, wl) (y88, l88) (y99, l99))))) rfl rfl (RunK.toA (.cons .here rfl .nil) (.cons .here rfl .nil) rfl ?_)
     refine RunA.toB (by kernel_rfl) ?_
     refine RunB.one (i := 13) (by kernel_rfl) ?_
     refine RunI.val rfl (Val.pure rfl) rfl rfl rfl (RunK.toB ?_)
     refine RunB.done (by kernel_rfl) ?_
     exact RunE.joinX () trivial rfl (Sub.consE (t := 3) rfl (by simp_all) (Sub.cons (t := 2) rfl (Sub.nil _))) (.cons (.there .here) rfl (Pick.cnt fun x => by simp only [nC, List.nil_append, List.append_nil, spRows_nil, trB, spB, waB, ownB_none, ownB_some14, spRows_snoc, row_flat]; omega))
    intro g108
    have g108' := g108; clear g108
    try simp only [nH] at g108'
    refine RunA.no (i := 6) rfl (by kernel_rfl) (by kernel_rfl) rfl rfl rfl (fun _ _ _ h => h) (.cons .here rfl .nil) rfl ?_
    refine va 7 rfl (Val.pure rfl) rfl rfl rfl (.cons .here rfl .nil) rfl ?_
    refine va 8 rfl (Val.pure rfl) rfl rfl rfl (.cons .here rfl .nil) rfl ?_
    refine RunA.ways (dj := 111) rfl ?_ ?_
    ·intro g111
     have g111' := g111; clear g111
     try simp only [nH] at g111'
     refine va 9 rfl (Val.load_agg rfl (.head _) ty_25 rfl) rfl rfl rfl (.cons .here rfl .nil) rfl ?_
     refine RunA.one (i := 10) (by kernel_rfl) (by kernel_rfl) ?_
     refine RunI.callP rfl (isCall_func rfl ent_32) rfl rfl rfl (fun w hm => (rTourX_calls ⟨d, (y39, l39), (wo, wl), (y88, l88), (y99, l99)⟩ hTX [] W w (hm.pick (news' := trB ⟨d, (y39, l39), (wo, wl), (y88, l88), (y99, l99)⟩ ++ []) (Pick.cnt fun x => by simp only [nC, List.nil_append, List.append_nil, spRows_nil, trB, spB, waB, ownB_none, ownB_some14, spRows_snoc, row_flat]; omega)))) (RunK.toA (.cons .here rfl .nil) (.cons .here rfl .nil) rfl ?_)
     refine va 11 rfl (Val.pure rfl) rfl rfl rfl (.cons .here rfl .nil) rfl ?_
     refine RunA.one (i := 12) (by kernel_rfl) (by kernel_rfl) ?_
     refine RunI.sto rfl (Sto.store (cs := zsrdT) (cs' := (TrX.mk d (y39, l39) (wo, wl) (y88, l88) (y99, l99)).cells) rfl rfl (.there .here) ty_25 rfl (paste_over rfl (one_trX (TrX.mk d (y39, l39) (wo, wl) (y88, l88) (y99, l99))))) rfl rfl (RunK.toA (.cons .here rfl .nil) (.cons .here rfl .nil) rfl ?_)
     refine RunA.toB (by kernel_rfl) ?_
     refine RunB.one (i := 13) (by kernel_rfl) ?_
     refine RunI.val rfl (Val.pure rfl) rfl rfl rfl (RunK.toB ?_)
     refine RunB.done (by kernel_rfl) ?_
     exact RunE.joinX () trivial rfl (Sub.consE (t := 3) rfl (by simp_all) (Sub.cons (t := 2) rfl (Sub.nil _))) (.cons (.there .here) rfl (Pick.cnt fun x => by simp only [nC, List.nil_append, List.append_nil, spRows_nil, trB, spB, waB, ownB_none, ownB_some14, spRows_snoc, row_flat]; omega))
    intro g111
    have g111' := g111; clear g111
    try simp only [nH] at g111'
    refine RunA.no (i := 9) rfl (by kernel_rfl) (by kernel_rfl) rfl rfl rfl (fun _ _ _ h => h) (.cons .here rfl .nil) rfl ?_
    refine RunA.one (i := 10) (by kernel_rfl) (by kernel_rfl) ?_
    refine RunI.no rfl rfl rfl rfl (RunK.toA (.cons .here rfl .nil) (.cons .here rfl .nil) rfl ?_)
    refine va 11 rfl (Val.pure rfl) rfl rfl rfl (.cons .here rfl .nil) rfl ?_
    refine RunA.one (i := 12) (by kernel_rfl) (by kernel_rfl) ?_
    refine RunI.sto rfl (Sto.store (cs := zsrdT) (cs' := (TrX.mk d (y39, l39) (wo, wl) (y88, l88) (y99, l99)).cells) rfl rfl (.there .here) ty_25 rfl (paste_over rfl (one_trX (TrX.mk d (y39, l39) (wo, wl) (y88, l88) (y99, l99))))) rfl rfl (RunK.toA (.cons .here rfl .nil) (.cons .here rfl .nil) rfl ?_)
    refine RunA.toB (by kernel_rfl) ?_
    refine RunB.one (i := 13) (by kernel_rfl) ?_
    refine RunI.val rfl (Val.pure rfl) rfl rfl rfl (RunK.toB ?_)
    refine RunB.done (by kernel_rfl) ?_
    exact RunE.joinX () trivial rfl (Sub.consE (t := 3) rfl (by simp_all) (Sub.cons (t := 2) rfl (Sub.nil _))) (.cons (.there .here) rfl (Pick.cnt fun x => by simp only [nC, List.nil_append, List.append_nil, spRows_nil, trB, spB, waB, ownB_none, ownB_some14, spRows_snoc, row_flat]; omega))
   intro g105
   have g105' := g105; clear g105
   try simp only [nH] at g105'
   refine RunA.no (i := 3) rfl (by kernel_rfl) (by kernel_rfl) rfl rfl rfl (fun _ _ _ h => h) (.cons .here rfl .nil) rfl ?_
   refine va 4 rfl (Val.pure rfl) rfl rfl rfl (.cons .here rfl .nil) rfl ?_
   refine va 5 rfl (Val.pure rfl) rfl rfl rfl (.cons .here rfl .nil) rfl ?_
   refine RunA.ways (dj := 108) rfl ?_ ?_
   ·intro g108
    have g108' := g108; clear g108
    try simp only [nH] at g108'
    refine va 6 rfl (Val.pure rfl) rfl rfl rfl (.cons .here rfl .nil) rfl ?_
    refine va 7 rfl (Val.pure rfl) rfl rfl rfl (.cons .here rfl .nil) rfl ?_
    refine va 8 rfl (Val.pure rfl) rfl rfl rfl (.cons .here rfl .nil) rfl ?_
    refine RunA.ways (dj := 111) rfl ?_ ?_
    ·intro g111
     have g111' := g111; clear g111
     try simp only [nH] at g111'
     refine va 9 rfl (Val.load_agg rfl (.head _) ty_25 rfl) rfl rfl rfl (.cons .here rfl .nil) rfl ?_
     refine RunA.one (i := 10) (by kernel_rfl) (by kernel_rfl) ?_
     refine RunI.callP rfl (isCall_func rfl ent_32) rfl rfl rfl (fun w hm => (rTourX_calls ⟨d, (y39, l39), (wo, wl), (y88, l88), (y99, l99)⟩ hTX [] W w (hm.pick (news' := trB ⟨d, (y39, l39), (wo, wl), (y88, l88), (y99, l99)⟩ ++ []) (Pick.cnt fun x => by simp only [nC, List.nil_append, List.append_nil, spRows_nil, trB, spB, waB, ownB_none, ownB_some14, spRows_snoc, row_flat]; omega)))) (RunK.toA (.cons .here rfl .nil) (.cons .here rfl .nil) rfl ?_)
     refine va 11 rfl (Val.pure rfl) rfl rfl rfl (.cons .here rfl .nil) rfl ?_
     refine RunA.one (i := 12) (by kernel_rfl) (by kernel_rfl) ?_
     refine RunI.sto rfl (Sto.store (cs := zsrdT) (cs' := (TrX.mk d (y39, l39) (wo, wl) (y88, l88) (y99, l99)).cells) rfl rfl (.there .here) ty_25 rfl (paste_over rfl (one_trX (TrX.mk d (y39, l39) (wo, wl) (y88, l88) (y99, l99))))) rfl rfl (RunK.toA (.cons .here rfl .nil) (.cons .here rfl .nil) rfl ?_)
     refine RunA.toB (by kernel_rfl) ?_
     refine RunB.one (i := 13) (by kernel_rfl) ?_
     refine RunI.val rfl (Val.pure rfl) rfl rfl rfl (RunK.toB ?_)
     refine RunB.done (by kernel_rfl) ?_
     exact RunE.joinX () trivial rfl (Sub.consE (t := 3) rfl (by simp_all) (Sub.cons (t := 2) rfl (Sub.nil _))) (.cons (.there .here) rfl (Pick.cnt fun x => by simp only [nC, List.nil_append, List.append_nil, spRows_nil, trB, spB, waB, ownB_none, ownB_some14, spRows_snoc, row_flat]; omega))
    intro g111
    have g111' := g111; clear g111
    try simp only [nH] at g111'
    refine RunA.no (i := 9) rfl (by kernel_rfl) (by kernel_rfl) rfl rfl rfl (fun _ _ _ h => h) (.cons .here rfl .nil) rfl ?_
    refine RunA.one (i := 10) (by kernel_rfl) (by kernel_rfl) ?_
    refine RunI.no rfl rfl rfl rfl (RunK.toA (.cons .here rfl .nil) (.cons .here rfl .nil) rfl ?_)
    refine va 11 rfl (Val.pure rfl) rfl rfl rfl (.cons .here rfl .nil) rfl ?_
    refine RunA.one (i := 12) (by kernel_rfl) (by kernel_rfl) ?_
    refine RunI.sto rfl (Sto.store (cs := zsrdT) (cs' := (TrX.mk d (y39, l39) (wo, wl) (y88, l88) (y99, l99)).cells) rfl rfl (.there .here) ty_25 rfl (paste_over rfl (one_trX (TrX.mk d (y39, l39) (wo, wl) (y88, l88) (y99, l99))))) rfl rfl (RunK.toA (.cons .here rfl .nil) (.cons .here rfl .nil) rfl ?_)
    refine RunA.toB (by kernel_rfl) ?_
    refine RunB.one (i := 13) (by kernel_rfl) ?_
    refine RunI.val rfl (Val.pure rfl) rfl rfl rfl (RunK.toB ?_)
    refine RunB.done (by kernel_rfl) ?_
    exact RunE.joinX () trivial rfl (Sub.consE (t := 3) rfl (by simp_all) (Sub.cons (t := 2) rfl (Sub.nil _))) (.cons (.there .here) rfl (Pick.cnt fun x => by simp only [nC, List.nil_append, List.append_nil, spRows_nil, trB, spB, waB, ownB_none, ownB_some14, spRows_snoc, row_flat]; omega))
   intro g108
   have g108' := g108; clear g108
   try simp only [nH] at g108'
   refine RunA.no (i := 6) rfl (by kernel_rfl) (by kernel_rfl) rfl rfl rfl (fun _ _ _ h => h) (.cons .here rfl .nil) rfl ?_
   refine va 7 rfl (Val.pure rfl) rfl rfl rfl (.cons .here rfl .nil) rfl ?_
   refine va 8 rfl (Val.pure rfl) rfl rfl rfl (.cons .here rfl .nil) rfl ?_
   refine RunA.ways (dj := 111) rfl ?_ ?_
   ·intro g111
    have g111' := g111; clear g111
    try simp only [nH] at g111'
    refine va 9 rfl (Val.load_agg rfl (.head _) ty_25 rfl) rfl rfl rfl (.cons .here rfl .nil) rfl ?_
    refine RunA.one (i := 10) (by kernel_rfl) (by kernel_rfl) ?_
    refine RunI.callP rfl (isCall_func rfl ent_32) rfl rfl rfl (fun w hm => (rTourX_calls ⟨d, (y39, l39), (wo, wl), (y88, l88), (y99, l99)⟩ hTX [] W w (hm.pick (news' := trB ⟨d, (y39, l39), (wo, wl), (y88, l88), (y99, l99)⟩ ++ []) (Pick.cnt fun x => by simp only [nC, List.nil_append, List.append_nil, spRows_nil, trB, spB, waB, ownB_none, ownB_some14, spRows_snoc, row_flat]; omega)))) (RunK.toA (.cons .here rfl .nil) (.cons .here rfl .nil) rfl ?_)
    refine va 11 rfl (Val.pure rfl) rfl rfl rfl (.cons .here rfl .nil) rfl ?_
    refine RunA.one (i := 12) (by kernel_rfl) (by kernel_rfl) ?_
    refine RunI.sto rfl (Sto.store (cs := zsrdT) (cs' := (TrX.mk d (y39, l39) (wo, wl) (y88, l88) (y99, l99)).cells) rfl rfl (.there .here) ty_25 rfl (paste_over rfl (one_trX (TrX.mk d (y39, l39) (wo, wl) (y88, l88) (y99, l99))))) rfl rfl (RunK.toA (.cons .here rfl .nil) (.cons .here rfl .nil) rfl ?_)
    refine RunA.toB (by kernel_rfl) ?_
    refine RunB.one (i := 13) (by kernel_rfl) ?_
    refine RunI.val rfl (Val.pure rfl) rfl rfl rfl (RunK.toB ?_)
    refine RunB.done (by kernel_rfl) ?_
    exact RunE.joinX () trivial rfl (Sub.consE (t := 3) rfl (by simp_all) (Sub.cons (t := 2) rfl (Sub.nil _))) (.cons (.there .here) rfl (Pick.cnt fun x => by simp only [nC, List.nil_append, List.append_nil, spRows_nil, trB, spB, waB, ownB_none, ownB_some14, spRows_snoc, row_flat]; omega))
   intro g111
   have g111' := g111; clear g111
   try simp only [nH] at g111'
   refine RunA.no (i := 9) rfl (by kernel_rfl) (by kernel_rfl) rfl rfl rfl (fun _ _ _ h => h) (.cons .here rfl .nil) rfl ?_
   refine RunA.one (i := 10) (by kernel_rfl) (by kernel_rfl) ?_
   refine RunI.no rfl rfl rfl rfl (RunK.toA (.cons .here rfl .nil) (.cons .here rfl .nil) rfl ?_)
   refine va 11 rfl (Val.pure rfl) rfl rfl rfl (.cons .here rfl .nil) rfl ?_
   refine RunA.one (i := 12) (by kernel_rfl) (by kernel_rfl) ?_
   refine RunI.sto rfl (Sto.store (cs := zsrdT) (cs' := (TrX.mk d (y39, l39) (wo, wl) (y88, l88) (y99, l99)).cells) rfl rfl (.there .here) ty_25 rfl (paste_over rfl (one_trX (TrX.mk d (y39, l39) (wo, wl) (y88, l88) (y99, l99))))) rfl rfl (RunK.toA (.cons .here rfl .nil) (.cons .here rfl .nil) rfl ?_)
   refine RunA.toB (by kernel_rfl) ?_
   refine RunB.one (i := 13) (by kernel_rfl) ?_
   refine RunI.val rfl (Val.pure rfl) rfl rfl rfl (RunK.toB ?_)
   refine RunB.done (by kernel_rfl) ?_
   exact RunE.joinX () trivial rfl (Sub.consE (t := 3) rfl (by simp_all) (Sub.cons (t := 2) rfl (Sub.nil _))) (.cons (.there .here) rfl (Pick.cnt fun x => by simp only [nC, List.nil_append, List.append_nil, spRows_nil, trB, spB, waB, ownB_none, ownB_some14, spRows_snoc, row_flat]; omega))
  intro u uI
  refine RunE.next ?_
  refine RunC.ret ?_
  exact RunE.retG (TrX.mk d (y39, l39) (wo, wl) (y88, l88) (y99, l99), wi && i88 && i99 && tourX (TrX.mk d (y39, l39) (wo, wl) (y88, l88) (y99, l99)).pl) ⟨hTX, by rw [hTV]; rfl, fun _ => by rw [hTV]; rfl⟩ (.r2 rfl (.agg rfl (.head _) ty_25 rfl) (.tmp rfl)) rfl (Pick.skip (Pick.refl _))
end Go.Proofs.YtleamcmljcdapaaGreatDoor
namespace Go.Proofs.YtleamcmljcdapaaGreatDoor
open Go Go.Eng
theorem ent_46 : Enters Tryz.prog 46 := enters_of Tryz.func46 (by kernel_rfl) rfl
theorem ent_47 : Enters Tryz.prog 47 := enters_of Tryz.func47 (by kernel_rfl) rfl
end Go.Proofs.YtleamcmljcdapaaGreatDoor
namespace Go.Bk
open Go Go.Eng Go.RowKit
theorem rowsS_eq {l : List (OL Str)} (h : ∀ r ∈ l, OL.ok r strC 1) : (l.map rowC) = (l.map OL.sa).map SA.cell := by
  rw [List.map_map]
  refine List.map_congr_left fun r hr => ?_
  show [ownV r.1 r.2.length] = [(OL.sa r).v]
  rw [OL.sa_v (h r hr)]
/-- Lines that append made, as lines in memory. -/
def lsA (y : Eng.Own) (l : List (OL Str)) : LsA := ⟨l.map OL.sa, ownQ y, ownK y, 0, ownC y⟩
theorem lsA_pl (y : Eng.Own) (l : List (OL Str)) : LsA.pl (lsA y l) = l.map (·.2) := by
  unfold LsA.pl lsA
  rw [List.map_map]
  rfl
theorem lsA_v {y : Eng.Own} {l : List (OL Str)} (h : OL.ok (y, l) rowC 1) : SA.v (lsA y l) = ownV y l.length := by
  show Value.slice (ownQ y) (l.map OL.sa).length (ownC y) = _
  rw [List.length_map, ownV_slice (show OwnOk 1 y l.length _ from h)]
end Go.Bk
namespace Go.Proofs.YtleamcmljcdapaaGreatDoor
open Go Go.Eng Go.Bk Go.RowKit

theorem lsA_ok {y : Eng.Own} {l : List (OL Str)} {w : World} (h : OL.ok (y, l) rowC 1) (hr : ∀ r ∈ l, OL.ok r strC 1) (hat : ∀ b o, (b, o) ∈ rwB (y, l) ++ stRows l → w.heap[b]? = some o) : LsOk w (lsA y l) := by
  refine ⟨?_, fun r hr2 => ?_⟩
  · show Sl w (ownQ y) (ownK y) 0 1 ((l.map OL.sa).map SA.cell)
    rw [← rowsS_eq hr]
    exact own_sl (f := rowC) (e := 166) (fun _ => rfl) (by decide) h (fun b o hb => hat b o (List.mem_append_left _ hb))
  · obtain ⟨q, hq, rfl⟩ := List.mem_map.1 hr2
    exact own_sl (f := strC) (e := 9) (fun _ => rfl) (by decide) (hr q hq) (fun b o hb => hat b o (List.mem_append_right _ (List.mem_flatten.2 ⟨_, List.mem_map.2 ⟨q, hq, rfl⟩, hb⟩)))
theorem tourO_calls (y : Eng.Own) (l : List (OL Str)) (s : Str) (i : Bool) (hs : s.length ≤ 4096) (h : OL.ok (y, l) rowC 1) (hr : ∀ r ∈ l, OL.ok r strC 1) (he : (l.map (·.2), i) = rowsR s) (w : World) (hL : Lw Tryz.prog w) (hat : ∀ b o, (b, o) ∈ rwB (y, l) ++ stRows l → w.heap[b]? = some o) : Calls Tryz.prog 47 #[ownV y l.length] w (Grow w [] (fun z : TrX × Bool => .tuple #[.agg z.1.cells.toArray, .bool z.2]) (fun z => trB z.1 ++ []) (fun z => TrXOk 10000 z.1 ∧ LinesSay tourX tourLs (rowsR s).1 z.1.pl z.2)) := by
  have e1 : LsA.pl (lsA y l) = (rowsR s).1 := by rw [lsA_pl, ← he]
  have hk : RowsOk (LsA.pl (lsA y l)) := by rw [e1]; exact rows_rok hs
  have h1 := tour_calls14 (lsA y l) w (lsA_ok h hr hat) hk hL
  rw [lsA_v h] at h1
  refine calls_mono h1 ?_
  rintro e w' ⟨z, ⟨z1, z2, z3⟩, z4, z5⟩
  refine ⟨z, ⟨z1, ?_⟩, z4, z5⟩
  have h2 := tour_says (ls := (rowsR s).1) (rows_ne s)
  rw [e1] at z2 z3
  refine ⟨fun h => ?_, fun h => h2.no (z2 ▸ h)⟩
  rw [z3 h]
  exact h2.yes (z2 ▸ h)
theorem rReadTour_calls (s : Str) (hs : s.length ≤ 10000) (W : World) (hL : Lw Tryz.prog W) : Calls Tryz.prog 13 #[.string (bs s)] W (Grow W [] (fun z : TrX × Int => .tuple #[.agg z.1.cells.toArray, .int .i64 z.2]) (fun z => trB z.1 ++ []) (RdX (readX tourStep zeroT tourX tourS s) TrX.pl (TrXOk 10000) zeroTX)) := by
  refine calls_start Tryz.func13 rfl rfl ?_
  refine csr ?_
  refine RunL.new (New.alloc zero_25) rfl rfl rfl (fun b2 => ?_)
  refine vp rfl rfl rfl rfl ?_
  refine nnx ?_
  refine RunC.seq ?_
  refine csr ?_
  refine vp rfl rfl rfl rfl ?_
  refine RunL.val (Val.lenS rfl und_9) rfl rfl rfl ?_
  refine vp rfl rfl rfl rfl ?_
  refine nnx ?_
  refine RunC.cond rfl ?_ ?_
  ·intro c0
   have c0' := c0; clear c0
   try simp only [nH] at c0'
   refine csr ?_
   refine RunL.val (Val.build (parts := []) rfl zero_25 places_25 rfl) rfl rfl rfl ?_
   refine RunL.sto (Sto.store rfl rfl .here ty_25 rfl rfl) rfl rfl ?_
   refine vp rfl rfl rfl rfl ?_
   refine nnx ?_
   refine RunC.ret ?_
   refine RunE.pass_ret ?_
   exact RunE.retG (zeroTX, 3) (.inr ⟨3, read_long (by omega), rfl⟩) (.r2 rfl (.agg rfl (.head _) ty_25 rfl) (.tmp rfl)) rfl (show Pick [] _ from .nil)
  intro c0
  have c0' := c0; clear c0
  try simp only [nH] at c0'
  have hs4 : s.length ≤ 4096 := by omega
  refine RunC.skip ?_
  refine RunE.next ?_
  refine csr ?_
  refine vp rfl rfl rfl rfl ?_
  refine RunL.callNT (isCall_func rfl ent_46) rfl rfl rfl (fun w hm => grow_news (rows_calls14 s hs w)) (fun z13 => ?_)
  obtain ⟨⟨⟨y13, l13⟩, i13⟩, o13, a13, e13⟩ := z13
  dsimp only at a13 e13
  dsimp only [OL.v]
  iterate 5 refine vp rfl rfl rfl rfl ?_
  refine nnx ?_
  refine RunC.seq ?_
  refine csr ?_
  refine vp rfl rfl rfl rfl ?_
  refine vp rfl rfl rfl rfl ?_
  refine nnx ?_
  refine RunC.cond rfl ?_ ?_
  ·intro c1
   have c1' := c1; clear c1
   try simp only [nH] at c1'
   refine csr ?_
   refine RunL.val (Val.build (parts := []) rfl zero_25 places_25 rfl) rfl rfl rfl ?_
   refine RunL.sto (Sto.store rfl rfl .here ty_25 rfl rfl) rfl rfl ?_
   refine vp rfl rfl rfl rfl ?_
   refine nnx ?_
   refine RunC.ret ?_
   refine RunE.pass_ret ?_
   exact RunE.retG (zeroTX, 8) (.inr ⟨8, ref_no (x := zeroT) tour_lines tour_lok tour_ne hs4 (.inl (by rw [← e13]; exact c1')), rfl⟩) (.r2 rfl (.agg rfl (.head _) ty_25 rfl) (.tmp rfl)) rfl (show Pick [] _ from .nil)
  intro c1
  have c1' := c1; clear c1
  try simp only [nH] at c1'
  refine RunC.skip ?_
  refine RunE.next ?_
  refine csr ?_
  refine vp rfl rfl rfl rfl ?_
  refine RunL.callNA [(b2, _)] _ rfl (isCall_func rfl ent_47) rfl rfl rfl (fun w hm => (grow_news (tourO_calls y13 l13 s i13 (by omega) o13 a13 e13 w (hL.mono hm) (fun b o h => hm.at (by rcases List.mem_append.1 h with h | h <;> simp [h]))))) (fun z21 => ?_)
  obtain ⟨⟨x21, i21⟩, o21, f21⟩ := z21
  dsimp only at o21 f21 ⊢
  iterate 3 refine vp rfl rfl rfl rfl ?_
  refine RunL.new (New.alloc zero_25) rfl rfl rfl (fun b6 => ?_)
  refine RunL.sto (Sto.store (cs := zsrdT) (cs' := x21.cells) rfl rfl .here ty_25 rfl (paste_over rfl (one_trX x21))) rfl rfl ?_
  refine vp rfl rfl rfl rfl ?_
  refine nnx ?_
  refine RunC.seq ?_
  refine csr ?_
  refine vp rfl rfl rfl rfl ?_
  refine vp rfl rfl rfl rfl ?_
  refine nnx ?_
  refine RunC.cond rfl ?_ ?_
  ·intro c2
   have c2' := c2; clear c2
   try simp only [nH] at c2'
   refine csr ?_
   refine RunL.val (Val.build (parts := []) rfl zero_25 places_25 rfl) rfl rfl rfl ?_
   refine RunL.sto (Sto.store rfl rfl (.there .here) ty_25 rfl rfl) rfl rfl ?_
   refine vp rfl rfl rfl rfl ?_
   refine nnx ?_
   refine RunC.ret ?_
   refine RunE.pass_ret ?_
   exact RunE.retG (zeroTX, 8) (.inr ⟨8, ref_no (x := x21.pl) tour_lines tour_lok tour_ne hs4 (.inr (c2' ▸ f21)), rfl⟩) (.r2 rfl (.agg rfl (.tail _ (.head _)) ty_25 rfl) (.tmp rfl)) rfl (show Pick [] _ from .nil)
  intro c2
  have c2' := c2; clear c2
  try simp only [nH] at c2'
  refine RunC.skip ?_
  refine RunE.next ?_
  refine csr ?_
  refine RunL.val (Val.load_agg rfl (.head _) ty_25 rfl) rfl rfl rfl ?_
  refine RunL.sto (Sto.store (cs := zsrdT) (cs' := x21.cells) rfl rfl (.there .here) ty_25 rfl (paste_over rfl (one_trX x21))) rfl rfl ?_
  refine vp rfl rfl rfl rfl ?_
  refine nnx ?_
  refine RunC.ret ?_
  exact RunE.retG (x21, 0) (.inl ⟨x21.pl, ref_yes parse_tour tour_lines hs4 (by rw [← e13]; exact c1') (c2' ▸ f21), rfl, rfl, o21⟩) (.r2 rfl (.agg rfl (.tail _ (.head _)) ty_25 rfl) (.tmp rfl)) rfl (Pick.cnt fun x => by simp only [nC]; omega)
end Go.Proofs.YtleamcmljcdapaaGreatDoor
namespace Go.Bk
open Go Go.Eng Go.RowKit
abbrev iSh : Sh := .int .i64
abbrev spSh : Sh := .st [iSh, iSh]
abbrev trSh : Sh := .st [iSh, .sl spSh, .sl (.sl spSh), .sl spSh, .sl spSh]
theorem rd_cons {w : World} {s : Sh} {l : List Sh} {cs : List Value} (h : Rd w (.st (s :: l)) cs) : ∃ a b, cs = a ++ b ∧ Rd w s a ∧ Rd w (.st l) b := by
  cases h with
  | recS h1 h2 => exact ⟨_, _, rfl, h1, h2⟩
theorem rd_nil {w : World} {cs : List Value} (h : Rd w (.st []) cs) : cs = [] := by cases h; rfl
theorem rd_int {w : World} {cs : List Value} (h : Rd w iSh cs) : ∃ n : Int, cs = [.int .i64 n] ∧ True := by cases h; exact ⟨_, rfl, trivial⟩
theorem rd_str {w : World} {cs : List Value} (h : Rd w .str cs) : ∃ s : Str, cs = [.string (bs s)] ∧ True := by
  cases h with
  | @str s _ => exact ⟨s.data.toList, by simp [bs], trivial⟩
theorem rd_sp {w : World} {cs : List Value} (h : Rd w spSh cs) : ∃ s : Sp, cs = s.cells ∧ True := by
  obtain ⟨a, b, rfl, h1, h⟩ := rd_cons h
  obtain ⟨c, d, rfl, h2, h⟩ := rd_cons h
  obtain rfl := rd_nil h
  obtain ⟨n, rfl, _⟩ := rd_int h1
  obtain ⟨m, rfl, _⟩ := rd_int h2
  exact ⟨⟨n, m⟩, rfl, trivial⟩
theorem rowsH_of {α : Type} {f : α → List Value} {p : α → Prop} : ∀ {xs : List (List Value)}, (∀ x ∈ xs, ∃ a, x = f a ∧ p a) → ∃ l : List α, xs = l.map f ∧ ∀ a ∈ l, p a
  | [], _ => ⟨[], rfl, fun a h => by cases h⟩
  | x :: xs, h => by
    obtain ⟨a, rfl, ha⟩ := h x (by simp)
    obtain ⟨l, rfl, hl⟩ := rowsH_of (xs := xs) (fun y hy => h y (List.mem_cons_of_mem _ hy))
    exact ⟨a :: l, rfl, fun b hb => by rcases List.mem_cons.1 hb with rfl | hb; exact ha; exact hl b hb⟩
/-- What is known of a slice that comes in. -/
structure SaIn {α : Type} (f : α → List Value) (sz : Nat) (p : α → Prop) (w : World) (s : SA α) : Prop where
  ok : s.ok f sz w
  each : ∀ a ∈ s.l, p a
  cap : s.l.length ≤ s.c
  few : s.c ≤ maxLen
  nq : s.q = none → s.l.length = 0 ∧ s.c = 0
theorem rd_sa {α : Type} {f : α → List Value} {p : α → Prop} {w : World} {e : Sh} (hx : ∀ {x}, Rd w e x → ∃ a, x = f a ∧ p a) {cs : List Value} (h : Rd w (.sl e) cs) : ∃ s : SA α, cs = [s.v] ∧ SaIn f e.size p w s := by
  cases h with
  | slNil => exact ⟨⟨[], none, 0, 0, 0⟩, rfl, ⟨Sl.emp, (fun a h => by cases h), Nat.le_refl _, Nat.zero_le _, fun _ => ⟨rfl, rfl⟩⟩⟩
  | sl hs hl hc h =>
    obtain ⟨l, rfl, hl2⟩ := rowsH_of (f := f) (p := p) (fun x hx' => hx (h x hx'))
    rw [List.length_map] at hl
    exact ⟨⟨l, some _, _, _, _⟩, by rw [List.length_map]; rfl, ⟨hs, hl2, hl, hc, fun h => by cases h⟩⟩
theorem rd_tr {w : World} {cs : List Value} (h : Rd w trSh cs) : ∃ t : TrA, cs = t.cells ∧ TrOk w t ∧ t.ways.l.length ≤ maxLen := by
  obtain ⟨_, _, rfl, h1, h⟩ := rd_cons h
  obtain ⟨_, _, rfl, h2, h⟩ := rd_cons h
  obtain ⟨_, _, rfl, h3, h⟩ := rd_cons h
  obtain ⟨_, _, rfl, h4, h⟩ := rd_cons h
  obtain ⟨_, _, rfl, h5, h⟩ := rd_cons h
  obtain rfl := rd_nil h
  obtain ⟨n, rfl, _⟩ := rd_int h1
  obtain ⟨a, rfl, ha⟩ := rd_sa rd_sp h2
  obtain ⟨b, rfl, hb⟩ := rd_sa (f := SA.cell) (p := fun s => SaIn Sp.cells 2 (fun _ => True) w s) (rd_sa rd_sp) h3
  obtain ⟨c, rfl, hc⟩ := rd_sa rd_sp h4
  obtain ⟨d, rfl, hd⟩ := rd_sa rd_sp h5
  exact ⟨⟨n, a, b, c, d⟩, rfl, ⟨ha.ok, hb.ok, fun x hx => (hb.each x hx).ok, hc.ok, hd.ok, hb.nq⟩, Nat.le_trans hb.cap hb.few⟩
def nilCA : CbA := ⟨0, ⟨[], none, 0, 0, 0⟩, 0, ⟨[], none, 0, 0, 0⟩⟩
def nilRA : RyA := ⟨⟨[], none, 0, 0, 0⟩, ⟨[], none, 0, 0, 0⟩, ⟨[], none, 0, 0, 0⟩, ⟨[], none, 0, 0, 0⟩, ⟨[], none, 0, 0, 0⟩⟩
def nilPA : PsA := ⟨⟨[], none, 0, 0, 0⟩, ⟨0, 0⟩, ⟨0, 0⟩⟩
theorem nilRA_ok (w : World) : RyOk w nilRA := ⟨Sl.emp, Sl.emp, Sl.emp, (fun x h => by cases h), Sl.emp, Sl.emp⟩
theorem Few.sm {t : TrA} {c : CbA} {r : RyA} {p : PsA} (h : Few t.pl c.pl r.pl p.pl) : TrSm t ∧ CbS c ∧ RySm r ∧ p.cards.l.length ≤ 10000 := by
  obtain ⟨h1, h2, h3, h4, h5, h6, h7, h8, h9, h10, h11, h12, h13, h14⟩ := h
  have e1 : t.pl.ways.length = t.ways.l.length := by simp [TrA.pl]
  have e2 : r.pl.shares.length = r.shares.l.length := by simp [RyA.pl]
  rw [e1] at h2
  rw [e2] at h12
  refine ⟨⟨Nat.le_trans h1 (by decide), Nat.le_trans h2 (by decide), fun x hx => Nat.le_trans (h3 x.l (List.mem_map.2 ⟨x, hx, rfl⟩)) (by decide), Nat.le_trans h4 (by decide), Nat.le_trans h5 (by decide)⟩, ⟨Nat.le_trans h6 (by decide), Nat.le_trans h7 (by decide)⟩,
    ⟨Nat.le_trans h9 (by decide), Nat.le_trans h11 (by decide), Nat.le_trans h12 (by decide), fun x hx => Nat.le_trans (h13 x.l (List.mem_map.2 ⟨x, hx, rfl⟩)) (by decide), Nat.le_trans h14 (by decide), Nat.le_trans h10 (by decide)⟩, Nat.le_trans h8 (by decide)⟩
end Go.Bk
namespace Go.Proofs.YtleamcmljcdapaaGreatDoor
open Go Go.Eng
theorem ent_11 : Enters Tryz.prog 11 := enters_of Tryz.func11 (by kernel_rfl) rfl
theorem ent_13 : Enters Tryz.prog 13 := enters_of Tryz.func13 (by kernel_rfl) rfl
end Go.Proofs.YtleamcmljcdapaaGreatDoor
namespace Go.Bk
open Go Go.Eng Go.RowKit
theorem rdx_oky {α β : Type} {x : Except Int α} {pl : β → α} {ok : β → Prop} {z0 z : β} {e : Int} (h : RdX x pl ok z0 (z, e)) (h0 : ok z0) : ok z := by
  rcases h with ⟨t, _, _, _, h4⟩ | ⟨k, _, h2⟩
  · exact h4
  · cases h2; exact h0
theorem rdx_one {α β : Type} {x : Except Int α} {pl : β → α} {ok : β → Prop} {z0 z y : β} {e f : Int} (h : RdX x pl ok z0 (z, e)) (h2 : RdX x pl ok z0 (y, f)) : pl z = pl y ∧ e = f := by
  rcases h with ⟨t, h1, h3, h4, _⟩ | ⟨k, h1, h3⟩
  · rcases h2 with ⟨u, g1, g3, g4, _⟩ | ⟨m, g1, g3⟩
    · rw [h1] at g1
      cases g1
      exact ⟨h3.trans g3.symm, h4.trans g4.symm⟩
    · rw [h1] at g1; cases g1
  · rcases h2 with ⟨u, g1, g3, g4, _⟩ | ⟨m, g1, g3⟩
    · rw [h1] at g1; cases g1
    · rw [h1] at g1
      cases g1
      cases h3
      cases g3
      exact ⟨rfl, rfl⟩
end Go.Bk
namespace Go.Proofs.YtleamcmljcdapaaGreatDoor
open Go Go.Eng Go.Bk Go.RowKit

set_option maxHeartbeats 2000000 in
theorem tours_law (t : TrA) (s : Str) (W : World) (hL : Lw Tryz.prog W) (hT : TrOk W t) (hn1 : t.ways.l.length ≤ 9223372036854775807) : Calls Tryz.prog 3 #[t.v, .string (bs s)] W (Pure (.bool true) W) := by
  refine calls_start Tryz.func3 rfl rfl ?_
  refine csr ?_
  refine RunL.new (New.box rfl) rfl rfl rfl (fun b2 => ?_)
  refine vp rfl rfl rfl rfl ?_
  refine nnx ?_
  refine RunC.seq ?_
  refine csr ?_
  refine RunL.val (Val.load_agg rfl (.head _) ty_25 rfl) rfl rfl rfl ?_
  refine RunL.val (Val.build (parts := []) rfl zero_30 places_30 rfl) rfl rfl rfl ?_
  refine RunL.val (Val.build (parts := []) rfl zero_35 places_35 rfl) rfl rfl rfl ?_
  refine RunL.val (Val.build (parts := []) rfl zero_40 places_40 rfl) rfl rfl rfl ?_
  refine RunL.callP (isCall_func rfl ent_8) rfl rfl rfl (fun w hm => great_calls t nilCA nilRA nilPA w (hT.mono0 hm) (nilRA_ok w) hn1 (by decide)) ?_
  refine vp rfl rfl rfl rfl ?_
  refine RunL.orPart (dj := 18) (dp := 22) 4 rfl (fun g18 => by
    have g18' := g18
    try simp only [nH] at g18'
    refine vp rfl rfl rfl rfl ?_
    refine RunL.val (Val.lenS rfl und_9) rfl rfl rfl ?_
    refine vp rfl rfl rfl rfl ?_
    refine vp rfl rfl rfl rfl ?_
    exact RunL.segEnd (Sub.cons rfl (Sub.skip rfl (Sub.skip rfl (Sub.skip rfl (Sub.skip rfl (Sub.same rfl (by rw [g18]) (Sub.refl _))))))) (List.Sublist.refl _)
  ) (fun g18 => by
    have g18' := g18
    try simp only [nH] at g18'
    iterate 3 refine RunL.no rfl rfl rfl ?_
    refine vp rfl rfl rfl rfl ?_
    exact RunL.segEnd (Sub.cons rfl (Sub.skip rfl (Sub.skip rfl (Sub.skip rfl (Sub.skip rfl (Sub.same rfl (by rw [g18]) (Sub.refl _))))))) (List.Sublist.refl _)
  ) ?_
  refine nnx ?_
  refine RunC.cond rfl ?_ ?_
  ·intro c0
   have c0' := c0; clear c0
   try simp only [nH] at c0'
   refine csr ?_
   refine RunL.callP (isCall_func rfl ent_9) rfl rfl rfl (fun w hm => alive_calls w (hL.mono hm)) ?_
   refine vp rfl rfl rfl rfl ?_
   refine nnx ?_
   refine RunC.ret ?_
   refine RunE.pass_ret ?_
   exact RunE.retP (.r1 rfl (.tmp rfl)) (by first | rfl | simp)
  intro c0
  have c0' := c0; clear c0
  try simp only [nH] at c0'
  have hst : TrSm t := (few_of (by simpa using c0'.1) : Few t.pl nilCA.pl nilRA.pl nilPA.pl).sm.1
  refine RunC.skip ?_
  refine RunE.next ?_
  refine csr ?_
  refine RunL.val (Val.load_agg rfl (.head _) ty_25 rfl) rfl rfl rfl ?_
  refine RunL.callP (isCall_func rfl ent_10) rfl rfl rfl (fun w hm => WriteTour_calls t hst w (hL.mono hm) (hT.mono0 hm)) ?_
  iterate 5 refine vp rfl rfl rfl rfl ?_
  refine nsr ?_
  refine RunL.val (Val.load_agg rfl (.head _) ty_25 rfl) rfl rfl rfl ?_
  refine RunL.callP (isCall_func rfl ent_11) rfl rfl rfl (fun w hm => rWriteTour_calls t hst w (hL.mono hm) (hT.mono0 hm)) ?_
  iterate 5 refine vp rfl rfl rfl rfl ?_
  refine nsr ?_
  refine vp rfl rfl rfl rfl ?_
  refine RunL.callNT (isCall_func rfl ent_12) rfl rfl rfl (fun w hm => grow_news (ReadTour_calls s w (hL.mono hm) (by omega))) (fun z36 => ?_)
  obtain ⟨⟨x36, e36⟩, h36⟩ := z36
  have o36 := rdx_oky h36 (zeroTX_ok.le (by decide))
  dsimp only
  iterate 3 refine vp rfl rfl rfl rfl ?_
  refine RunL.new (New.alloc zero_25) rfl rfl rfl (fun b9 => ?_)
  refine RunL.sto (Sto.store (cs := zsrdT) (cs' := x36.cells) rfl rfl .here ty_25 rfl (paste_over rfl (one_trX x36))) rfl rfl ?_
  refine vp rfl rfl rfl rfl ?_
  refine nsr ?_
  refine vp rfl rfl rfl rfl ?_
  refine RunL.callNA [(b9, _), (b2, _)] _ rfl (isCall_func rfl ent_13) rfl rfl rfl (fun w hm => grow_news (rReadTour_calls s (by omega) w (hL.mono hm))) (fun z41 => ?_)
  obtain ⟨⟨x41, e41⟩, h41⟩ := z41
  have o41 := rdx_oky h41 (zeroTX_ok.le (by decide))
  dsimp only
  iterate 3 refine vp rfl rfl rfl rfl ?_
  refine RunL.new (New.alloc zero_25) rfl rfl rfl (fun b11 => ?_)
  refine RunL.sto (Sto.store (cs := zsrdT) (cs' := x41.cells) rfl rfl .here ty_25 rfl (paste_over rfl (one_trX x41))) rfl rfl ?_
  refine vp rfl rfl rfl rfl ?_
  refine nsr ?_
  refine vp rfl rfl rfl rfl ?_
  refine vp rfl rfl rfl rfl ?_
  refine RunL.val (Val.eqlStr rfl rfl) rfl rfl rfl ?_
  refine vp rfl rfl rfl rfl ?_
  refine RunL.andPart (dj := 47) (dp := 51) 4 rfl (fun g47 => by
    have g47' := g47
    try simp only [nH] at g47'
    iterate 4 refine vp rfl rfl rfl rfl ?_
    exact RunL.segEnd (Sub.cons rfl (Sub.skip rfl (Sub.skip rfl (Sub.skip rfl (Sub.skip rfl (Sub.same rfl (by rw [g47]) (Sub.refl _))))))) (List.Sublist.refl _)
  ) (fun g47 => by
    have g47' := g47
    try simp only [nH] at g47'
    iterate 3 refine RunL.no rfl rfl rfl ?_
    refine vp rfl rfl rfl rfl ?_
    exact RunL.segEnd (Sub.cons rfl (Sub.skip rfl (Sub.skip rfl (Sub.skip rfl (Sub.skip rfl (Sub.same rfl (by rw [g47]) (Sub.refl _))))))) (List.Sublist.refl _)
  ) ?_
  refine vp rfl rfl rfl rfl ?_
  refine RunL.andPart (dj := 52) (dp := 56) 4 rfl (fun g52 => by
    have g52' := g52
    try simp only [nH] at g52'
    refine RunL.val (Val.load_agg rfl (.tail _ (.head _)) ty_25 rfl) rfl rfl rfl ?_
    refine RunL.val (Val.load_agg rfl (.head _) ty_25 rfl) rfl rfl rfl ?_
    refine RunL.callP (isCall_func rfl ent_14) rfl rfl rfl (fun w hm => (by have h9 := sameTX_calls x36 o36 x41.toA (o41.sm (by decide)) [] W w (hm.pick (news' := trB x36 ++ []) (Pick.cnt fun x => by simp only [nC]; omega)) (trX_ok o41 (hm.pick (news' := trB x41 ++ []) (Pick.cnt fun x => by simp only [nC]; omega))); rw [show x41.toA.v = .agg x41.cells.toArray by (unfold TrA.v; rw [o41.cells])] at h9; exact pure_true h9 (by rw [TrX.toA_pl]; exact (rdx_one h36 h41).1))) ?_
    refine vp rfl rfl rfl rfl ?_
    exact RunL.segEnd (Sub.cons rfl (Sub.skip rfl (Sub.skip rfl (Sub.skip rfl (Sub.skip rfl (Sub.same rfl (by rw [g52]) (Sub.refl _))))))) (List.Sublist.refl _)
  ) (fun g52 => by
    have g52' := g52
    try simp only [nH] at g52'
    iterate 3 refine RunL.no rfl rfl rfl ?_
    refine vp rfl rfl rfl rfl ?_
    exact RunL.segEnd (Sub.cons rfl (Sub.skip rfl (Sub.skip rfl (Sub.skip rfl (Sub.skip rfl (Sub.same rfl (by rw [g52]) (Sub.refl _))))))) (List.Sublist.refl _)
  ) ?_
  refine vp rfl rfl rfl rfl ?_
  refine RunL.andPart (dj := 57) (dp := 61) 4 rfl (fun g57 => by
    have g57' := g57
    try simp only [nH] at g57'
    iterate 4 refine vp rfl rfl rfl rfl ?_
    exact RunL.segEnd (Sub.cons rfl (Sub.skip rfl (Sub.skip rfl (Sub.skip rfl (Sub.skip rfl (Sub.same rfl (by rw [g57]) (Sub.refl _))))))) (List.Sublist.refl _)
  ) (fun g57 => by
    have g57' := g57
    try simp only [nH] at g57'
    iterate 3 refine RunL.no rfl rfl rfl ?_
    refine vp rfl rfl rfl rfl ?_
    exact RunL.segEnd (Sub.cons rfl (Sub.skip rfl (Sub.skip rfl (Sub.skip rfl (Sub.skip rfl (Sub.same rfl (by rw [g57]) (Sub.refl _))))))) (List.Sublist.refl _)
  ) ?_
  refine vp rfl rfl rfl rfl ?_
  refine RunL.andPart (dj := 62) (dp := 64) 2 rfl (fun g62 => by
    have g62' := g62
    try simp only [nH] at g62'
    refine RunL.callP (isCall_func rfl ent_9) rfl rfl rfl (fun w hm => alive_calls w (hL.mono hm)) ?_
    refine vp rfl rfl rfl rfl ?_
    exact RunL.segEnd (Sub.cons rfl (Sub.skip rfl (Sub.skip rfl (Sub.same rfl (by rw [g62]) (Sub.refl _))))) (List.Sublist.refl _)
  ) (fun g62 => by
    have g62' := g62
    try simp only [nH] at g62'
    refine RunL.no rfl rfl rfl ?_
    refine vp rfl rfl rfl rfl ?_
    exact RunL.segEnd (Sub.cons rfl (Sub.skip rfl (Sub.skip rfl (Sub.same rfl (by rw [g62]) (Sub.refl _))))) (List.Sublist.refl _)
  ) ?_
  refine vp rfl rfl rfl rfl ?_
  refine nnx ?_
  refine RunC.ret ?_
  exact RunE.retP (.r1 rfl (.tmp rfl)) (by rw [(rdx_one h36 h41).2]; simp)
theorem bookTours_walk (W : World) (vs : List Value) (hL : Lw Tryz.prog W) (h : RdAll W [trSh, .str] vs) : Calls Tryz.prog 3 vs.toArray W (Pure (.bool true) W) := by
  cases h with
  | cons h1 h =>
  cases h with
  | cons h2 h =>
  cases h
  obtain ⟨t, rfl, ht, hn1⟩ := rd_tr h1
  obtain ⟨s, rfl, _⟩ := rd_str h2
  exact tours_law t s W hL ht (Nat.le_trans hn1 (by decide))
end Go.Proofs.YtleamcmljcdapaaGreatDoor
