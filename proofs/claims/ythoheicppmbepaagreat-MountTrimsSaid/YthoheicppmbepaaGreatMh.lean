/- Layer 3: the least trimming, as the package looks for it. -/
import Derived.Test.YthoheicppmbepaaGreatMg
set_option linter.unusedSimpArgs false
set_option linter.unusedVariables false
namespace Go.Pw1
open Go Go.Eng
/-- Which of two rows of numbers comes first, as the library says. -/
def cmpL : List Int → List Int → Int
  | x :: l, y :: m => if x < y then -1 else if y < x then 1 else cmpL l m
  | [], _ :: _ => -1
  | _ :: _, [] => 1
  | [], [] => 0
theorem cmpL_hit : ∀ {l m : List Int} {k : Nat} (hk : k < l.length) (hm : k < m.length), (∀ j (h : j < k) (h1 : j < l.length) (h2 : j < m.length), l[j] = m[j]) → cmpL l m = if l[k] < m[k] then -1 else if m[k] < l[k] then 1 else cmpL (l.drop (k + 1)) (m.drop (k + 1))
  | x :: l, y :: m, 0, _, _, _ => by simp [cmpL]
  | x :: l, y :: m, k + 1, hk, hm, h => by
    have h0 := h 0 (by omega) (by simp) (by simp)
    simp only [List.getElem_cons_zero] at h0
    subst h0
    have h1 := cmpL_hit (l := l) (m := m) (k := k) (by simpa using hk) (by simpa using hm) (fun j hj h1 h2 => h (j + 1) (by omega) (by simp; omega) (by simp; omega))
    simp only [cmpL, Int.lt_irrefl, if_false, List.getElem_cons_succ, List.drop_succ_cons]
    exact h1
theorem cmpL_same : ∀ {l m : List Int}, l.length = m.length → (∀ j (h1 : j < l.length) (h2 : j < m.length), l[j] = m[j]) → cmpL l m = 0
  | [], [], _, _ => rfl
  | x :: l, y :: m, hl, h => by
    have h0 := h 0 (by simp) (by simp)
    simp only [List.getElem_cons_zero] at h0
    subst h0
    simp only [cmpL, Int.lt_irrefl, if_false]
    exact cmpL_same (by simpa using hl) (fun j h1 h2 => h (j + 1) (by simp; omega) (by simp; omega))
theorem cmpL_lex (a b : Tr) : (cmpL [a.ll, a.lr, a.rl, a.rr] [b.ll, b.lr, b.rl, b.rr] < 0) ↔ lexT a b := by
  simp only [cmpL, lexT]
  by_cases h1 : a.ll < b.ll
  · simp [h1]
  · by_cases h2 : b.ll < a.ll
    · simp [h1, h2]; omega
    · by_cases h3 : a.lr < b.lr
      · simp [h1, h2, h3]; omega
      · by_cases h4 : b.lr < a.lr
        · simp [h1, h2, h3, h4]; omega
        · by_cases h5 : a.rl < b.rl
          · simp [h1, h2, h3, h4, h5]; omega
          · by_cases h6 : b.rl < a.rl
            · simp [h1, h2, h3, h4, h5, h6]; omega
            · by_cases h7 : a.rr < b.rr
              · simp [h1, h2, h3, h4, h5, h6, h7]; omega
              · by_cases h8 : b.rr < a.rr
                · simp [h1, h2, h3, h4, h5, h6, h7, h8]
                · simp [h1, h2, h3, h4, h5, h6, h7, h8]
/-! ## The search -/
abbrev TrS (c : Cd) := { t : Tr // trIs c t = true }
def subL (c : Cd) (l : List Tr) : List (TrS c) := l.filterMap fun t => if h : trIs c t = true then some ⟨t, h⟩ else none
theorem subL_append (c : Cd) (l m : List Tr) : subL c (l ++ m) = subL c l ++ subL c m := by simp [subL, List.filterMap_append]
theorem subL_one {c : Cd} {t : Tr} (h : trIs c t = true) : subL c [t] = [⟨t, h⟩] := by simp [subL, h]
theorem subL_val {c : Cd} : ∀ {l : List Tr}, (∀ t ∈ l, trIs c t = true) → (subL c l).map (·.1) = l
  | [], _ => rfl
  | t :: l, h => by
    have h1 := h t (by simp)
    rw [show t :: l = [t] ++ l from rfl, subL_append, subL_one h1, List.map_append, subL_val (fun u hu => h u (List.mem_cons_of_mem _ hu))]
    rfl
def bstep (c : Cd) (o : Option Tr) (x : Tr) : Option Tr := match o with
  | none => if fitT c x then some x else none
  | some u => if befT u x then some u else if fitT c x then some x else some u
def bfold (c : Cd) (l : List Tr) : Option Tr := l.foldl (bstep c) none
theorem bfold_snoc (c : Cd) (l : List Tr) (x : Tr) : bfold c (l ++ [x]) = bstep c (bfold c l) x := by simp [bfold, List.foldl_append]
theorem bfold_keep {c : Cd} {u : Tr} : ∀ {l : List Tr}, (∀ x ∈ l, befT u x) → l.foldl (bstep c) (some u) = some u
  | [], _ => rfl
  | x :: l, h => by
    simp only [List.foldl_cons, bstep]
    rw [if_pos (h x (by simp))]
    exact bfold_keep fun y hy => h y (List.mem_cons_of_mem _ hy)
theorem bfold_find {c : Cd} : ∀ {l : List Tr}, l.Pairwise befT → bfold c l = l.find? (fitT c)
  | [], _ => rfl
  | x :: l, h => by
    cases h with
    | cons hx hl =>
      unfold bfold
      simp only [List.foldl_cons, bstep, List.find?_cons]
      cases hf : fitT c x with
      | true => simp only [if_true]; exact bfold_keep hx
      | false => simp only [Bool.false_eq_true, if_false]; exact bfold_find hl
def bO (c : Cd) (pre : List (TrS c)) : Option Tr := bfold c (pre.map (·.1))
theorem bO_snoc (c : Cd) (pre : List (TrS c)) (x : TrS c) : bO c (pre ++ [x]) = bstep c (bO c pre) x.1 := by simp [bO, bfold_snoc]
theorem bO_all {c : Cd} (hc : c.Ok) : bO c (subL c (trimsM c)) = bestM c := by
  unfold bO
  rw [subL_val (fun t ht => (trims_mem hc).1 ht)]
  exact bfold_find (trims_pw c)
theorem bO_stop {c : Cd} (hc : c.Ok) {pre rest : List (TrS c)} (h : pre ++ rest = subL c (trimsM c)) {u : Tr} (hu : bO c pre = some u) : bestM c = some u := by
  have h1 : pre.map (·.1) ++ rest.map (·.1) = trimsM c := by rw [← List.map_append, h, subL_val (fun t ht => (trims_mem hc).1 ht)]
  have h2 := trims_pw c
  rw [← h1] at h2
  have h3 : (pre.map (·.1)).find? (fitT c) = some u := by rw [← bfold_find (List.pairwise_append.1 h2).1]; exact hu
  unfold bestM
  rw [← h1, List.find?_append, h3]
  rfl
def tz : Tr := ⟨0, 0, 0, 0⟩
theorem fromZ_split (lo : Int) {k : Nat} : ∀ {N : Nat}, k < N → ∃ r, fromZ lo N = fromZ lo k ++ (lo + k) :: r
  | N + 1, h => by
    rcases Nat.lt_or_ge k N with h1 | h1
    · obtain ⟨r, hr⟩ := fromZ_split lo h1
      exact ⟨r ++ [lo + N], by simp [fromZ, hr]⟩
    · obtain rfl : k = N := by omega
      exact ⟨[], rfl⟩
/-- What has been handed out, with the next one, is how all begin. -/
theorem trims_begin {c : Cd} {k m n : Nat} (hk : k < (2 * c.cuts + 1).toNat) (hm : m < oneN c k) (hn : n < oneN c k) :
    ∃ rest, (trO c (fromZ 0 k) ++ trA c k (fromZ (oneLo c k) m) ++ trD k (oneLo c k + m) (fromZ (oneLo c k) n)) ++ ([⟨oneLo c k + m, k - (oneLo c k + m), oneLo c k + n, k - (oneLo c k + n)⟩] ++ rest) = trimsM c := by
  obtain ⟨r1, h1⟩ := fromZ_split 0 hk
  obtain ⟨r2, h2⟩ := fromZ_split (oneLo c k) hm
  obtain ⟨r3, h3⟩ := fromZ_split (oneLo c k) hn
  have e3 : trD k (oneLo c k + m) (fromZ (oneLo c k) (oneN c k)) = trD k (oneLo c k + m) (fromZ (oneLo c k) n) ++ ([⟨oneLo c k + m, k - (oneLo c k + m), oneLo c k + n, k - (oneLo c k + n)⟩] ++ trD k (oneLo c k + m) r3) := by rw [h3]; simp [trD]
  have e2 : trA c k (fromZ (oneLo c k) (oneN c k)) = trA c k (fromZ (oneLo c k) m) ++ (trD k (oneLo c k + m) (fromZ (oneLo c k) (oneN c k)) ++ trA c k r2) := by rw [h2]; simp [trA]; rw [← h2]
  have e1 : trimsM c = trO c (fromZ 0 k) ++ (trA c k (fromZ (oneLo c k) (oneN c k)) ++ trO c r1) := by unfold trimsM; rw [h1]; simp [trO]
  rw [e1, e2, e3]
  exact ⟨trD k (oneLo c k + m) r3 ++ trA c k r2 ++ trO c r1, by simp [List.append_assoc]⟩
theorem oneN_le {c : Cd} (hc : c.Ok) (one : Int) : oneN c one ≤ 41 := by
  have := hc.c1
  have := hc.c2
  unfold oneN oneHi oneLo
  omega
theorem trD_len (one a : Int) (l : List Int) : (trD one a l).length = l.length := by simp [trD]
theorem trA_len (c : Cd) (one : Int) : ∀ l : List Int, (trA c one l).length = l.length * oneN c one
  | [] => by simp [trA]
  | a :: l => by
    have h := trA_len c one l
    have e : trA c one (a :: l) = trD one a (fromZ (oneLo c one) (oneN c one)) ++ trA c one l := by simp [trA]
    rw [e, List.length_append, h, trD_len, fromZ_len, List.length_cons, Nat.add_mul]
    omega
theorem trO_len {c : Cd} (hc : c.Ok) : ∀ l : List Int, (trO c l).length ≤ l.length * 1681
  | [] => by simp [trO]
  | a :: l => by
    have h := trO_len hc l
    have e : trO c (a :: l) = trA c a (fromZ (oneLo c a) (oneN c a)) ++ trO c l := by simp [trO]
    have h2 := oneN_le hc a
    have h3 : oneN c a * oneN c a ≤ 41 * 41 := Nat.mul_le_mul h2 h2
    rw [e, List.length_append, trA_len, fromZ_len, List.length_cons, Nat.add_mul]
    omega
theorem subL_len (c : Cd) (l : List Tr) : (subL c l).length ≤ l.length := List.length_filterMap_le _ _
theorem trims_len {c : Cd} (hc : c.Ok) : (trimsM c).length ≤ 140000 := by
  have h := trO_len hc (fromZ 0 (2 * c.cuts + 1).toNat)
  rw [fromZ_len] at h
  have := hc.c2
  have h2 : (2 * c.cuts + 1).toNat ≤ 81 := by omega
  have h3 := Nat.mul_le_mul_right 1681 h2
  unfold trimsM
  omega
end Go.Pw1
namespace Go.Proofs.YthoheicppmbepaaGreat
open Go Go.Eng Go.Pw1

theorem isNaN_calls (x : Int) (W : World) : Calls Tryz.prog 112 #[.int .i64 x] W (Pure (.bool false) W) := by
  refine calls_start Tryz.func112 rfl rfl ?_
  refine RunC.seq ?_
  refine RunC.region ?_
  refine RunL.val (Val.pure rfl) rfl rfl rfl ?_
  refine RunL.nil ?_
  refine RunE.next ?_
  refine RunC.seq ?_
  refine RunC.region ?_
  iterate 4 refine RunL.val (Val.pure rfl) rfl rfl rfl ?_
  refine RunL.nil ?_
  refine RunE.next ?_
  refine RunC.ret ?_
  exact RunE.retP (.r1 rfl (.tmp rfl)) (by simp)
theorem compare_calls (x y : Int) (W : World) : Calls Tryz.prog 110 #[.int .i64 x, .int .i64 y] W (Pure (.int .i64 (if x < y then -1 else if y < x then 1 else 0)) W) := by
  refine calls_start Tryz.func110 rfl rfl ?_
  refine RunC.seq ?_
  refine RunC.region ?_
  refine RunL.val (Val.pure rfl) rfl rfl rfl ?_
  refine RunL.nil ?_
  refine RunE.next ?_
  refine RunC.seq ?_
  refine RunC.region ?_
  refine RunL.val (Val.pure rfl) rfl rfl rfl ?_
  refine RunL.callP (isCall_func rfl ent_112) rfl rfl rfl (fun w hm => isNaN_calls _ w) ?_
  refine RunL.val (Val.pure rfl) rfl rfl rfl ?_
  refine RunL.nil ?_
  refine RunE.next ?_
  refine RunC.seq ?_
  refine RunC.region ?_
  refine RunL.val (Val.pure rfl) rfl rfl rfl ?_
  refine RunL.callP (isCall_func rfl ent_112) rfl rfl rfl (fun w hm => isNaN_calls _ w) ?_
  refine RunL.val (Val.pure rfl) rfl rfl rfl ?_
  refine RunL.nil ?_
  refine RunE.next ?_
  refine RunC.seq ?_
  refine RunC.seq ?_
  refine RunC.region ?_
  refine RunL.val (Val.pure rfl) rfl rfl rfl ?_
  refine RunL.nil ?_
  refine RunE.next ?_
  refine RunC.cond rfl (fun h => absurd h (by decide)) ?_
  intro c0
  clear c0
  refine RunC.skip ?_
  refine RunE.next ?_
  refine RunC.seq ?_
  refine RunC.seq ?_
  refine RunC.region ?_
  refine RunL.val (Val.pure rfl) rfl rfl rfl ?_
  refine RunL.nil ?_
  refine RunE.next ?_
  refine RunC.cond rfl (fun h => absurd h (by decide)) ?_
  intro c2
  clear c2
  refine RunC.skip ?_
  refine RunE.next ?_
  refine RunC.seq ?_
  refine RunC.seq ?_
  refine RunC.region ?_
  iterate 3 refine RunL.val (Val.pure rfl) rfl rfl rfl ?_
  refine RunL.nil ?_
  refine RunE.next ?_
  refine RunC.cond rfl ?_ ?_
  · intro c3
    have c3' := c3; clear c3
    try simp only [decide_eq_true_eq, decide_eq_false_iff_not, Bool.not_eq_true', Bool.not_eq_false', Bool.and_eq_true, Bool.or_eq_true, Bool.and_eq_false_iff, Bool.or_eq_false_iff, Int.not_le, Int.not_lt] at c3'
    refine RunC.seq ?_
    refine RunC.region ?_
    refine RunL.val (Val.pure rfl) rfl rfl rfl ?_
    refine RunL.nil ?_
    refine RunE.next ?_
    refine RunC.ret ?_
    refine RunE.pass_ret ?_
    exact RunE.retP (.r1 rfl (.tmp rfl)) (by first | (simp [*]; done) | (rw [if_neg (by omega), if_pos (by omega)]) | (rw [if_neg (by omega), if_neg (by omega)]))
  · intro c3
    have c3' := c3; clear c3
    try simp only [decide_eq_true_eq, decide_eq_false_iff_not, Bool.not_eq_true', Bool.not_eq_false', Bool.and_eq_true, Bool.or_eq_true, Bool.and_eq_false_iff, Bool.or_eq_false_iff, Int.not_le, Int.not_lt] at c3'
    refine RunC.skip ?_
    refine RunE.next ?_
    refine RunC.seq ?_
    refine RunC.seq ?_
    refine RunC.region ?_
    iterate 3 refine RunL.val (Val.pure rfl) rfl rfl rfl ?_
    refine RunL.nil ?_
    refine RunE.next ?_
    refine RunC.cond rfl ?_ ?_
    · intro c4
      have c4' := c4; clear c4
      try simp only [decide_eq_true_eq, decide_eq_false_iff_not, Bool.not_eq_true', Bool.not_eq_false', Bool.and_eq_true, Bool.or_eq_true, Bool.and_eq_false_iff, Bool.or_eq_false_iff, Int.not_le, Int.not_lt] at c4'
      refine RunC.seq ?_
      refine RunC.region ?_
      refine RunL.val (Val.pure rfl) rfl rfl rfl ?_
      refine RunL.nil ?_
      refine RunE.next ?_
      refine RunC.ret ?_
      refine RunE.pass_ret ?_
      exact RunE.retP (.r1 rfl (.tmp rfl)) (by first | (simp [*]; done) | (rw [if_neg (by omega), if_pos (by omega)]) | (rw [if_neg (by omega), if_neg (by omega)]))
    · intro c4
      have c4' := c4; clear c4
      try simp only [decide_eq_true_eq, decide_eq_false_iff_not, Bool.not_eq_true', Bool.not_eq_false', Bool.and_eq_true, Bool.or_eq_true, Bool.and_eq_false_iff, Bool.or_eq_false_iff, Int.not_le, Int.not_lt] at c4'
      refine RunC.skip ?_
      refine RunE.next ?_
      refine RunC.seq ?_
      refine RunC.region ?_
      refine RunL.val (Val.pure rfl) rfl rfl rfl ?_
      refine RunL.nil ?_
      refine RunE.next ?_
      refine RunC.ret ?_
      exact RunE.retP (.r1 rfl (.tmp rfl)) (by first | (simp [*]; done) | (rw [if_neg (by omega), if_pos (by omega)]) | (rw [if_neg (by omega), if_neg (by omega)]))
theorem cmpS_calls (l m : List Int) (hlm : l.length = m.length) (hl : l.length ≤ 1000) (q : Option Addr) (b o cap : Nat) (q2 : Option Addr) (b2 o2 cap2 : Nat) (W : World) (hS : Sl W q b o 1 (l.map fun n => [.int .i64 n])) (hS2 : Sl W q2 b2 o2 1 (m.map fun n => [.int .i64 n])) :
    Calls Tryz.prog 99 #[.slice q l.length cap, .slice q2 m.length cap2] W (Pure (.int .i64 (cmpL l m)) W) := by
  refine calls_start Tryz.func99 rfl rfl ?_
  refine RunC.seq ?_
  refine RunC.region ?_
  refine RunL.val (Val.pure rfl) rfl rfl rfl ?_
  refine RunL.nil ?_
  refine RunE.next ?_
  refine RunC.seq ?_
  refine RunC.seq ?_
  refine RunC.region ?_
  refine RunL.val (Val.pure rfl) rfl rfl rfl ?_
  refine RunL.val (Val.len_sl rfl sl_55) rfl rfl rfl ?_
  refine RunL.val (Val.pure rfl) rfl rfl rfl ?_
  refine RunL.nil ?_
  refine RunE.next ?_
  refine RunC.block ?_
  refine RunC.loopK (l.length) (fun k q => (11, .int .i64 (k : Int)) :: q) (fun _ => _) (fun _ => []) (fun k => ∀ j (h : j < k) (h1 : j < l.length) (h2 : j < m.length), l[j] = m[j]) (fun j h => absurd h (by omega)) rfl (Sub.consE (t := 11) rfl rfl (Sub.cons (t := 0) rfl (Sub.cons (t := 1) rfl (Sub.cons (t := 9) rfl (Sub.cons (t := 10) rfl (Sub.nil _)))))) .nil ?_
  intro k kN kI
  refine RunC.seq ?_
  refine RunC.region ?_
  refine RunL.val (Val.pure rfl) rfl rfl rfl ?_
  refine RunL.nil ?_
  refine RunE.next ?_
  refine RunC.seq ?_
  refine RunC.cond rfl ?_ ?_
  · intro c0
    have c0' := c0; clear c0
    try simp only [decide_eq_true_eq, decide_eq_false_iff_not, Bool.not_eq_true', Bool.not_eq_false', Bool.and_eq_true, Bool.or_eq_true, Bool.and_eq_false_iff, Bool.or_eq_false_iff, Int.not_le, Int.not_lt] at c0'
    have hk : k < l.length := by omega
    have hk2 : k < m.length := by omega
    refine RunC.skip ?_
    refine RunE.next ?_
    refine RunC.seq ?_
    refine RunC.block ?_
    refine RunC.seq ?_
    refine RunC.region ?_
    refine RunL.val (Val.pure rfl) rfl rfl rfl ?_
    refine RunL.val (Val.indexAddr_slp rfl rfl sl_55 (by omega) (by omega) (hS.ptrM hk)) rfl rfl rfl ?_
    refine RunL.val (Val.load_gen rfl (fun w hm => hS.loadM1 (by decide) hm (by simp) ty_3 hk (v := .int .i64 l[k]) rfl)) rfl rfl rfl ?_
    refine RunL.val (Val.pure rfl) rfl rfl rfl ?_
    refine RunL.val (Val.pure rfl) rfl rfl rfl ?_
    refine RunL.nil ?_
    refine RunE.next ?_
    refine RunC.seq ?_
    refine RunC.seq ?_
    refine RunC.region ?_
    refine RunL.val (Val.pure rfl) rfl rfl rfl ?_
    refine RunL.val (Val.pure rfl) rfl rfl rfl ?_
    refine RunL.val (Val.len_sl rfl sl_55) rfl rfl rfl ?_
    refine RunL.val (Val.pure rfl) rfl rfl rfl ?_
    refine RunL.nil ?_
    refine RunE.next ?_
    refine RunC.cond rfl (fun h => absurd h (by simp; omega)) ?_
    intro c1
    clear c1
    refine RunC.skip ?_
    refine RunE.next ?_
    refine RunC.seq ?_
    refine RunC.region ?_
    refine RunL.val (Val.pure rfl) rfl rfl rfl ?_
    refine RunL.val (Val.pure rfl) rfl rfl rfl ?_
    refine RunL.val (Val.indexAddr_slp rfl rfl sl_55 (by omega) (by omega) (hS2.ptrM hk2)) rfl rfl rfl ?_
    refine RunL.val (Val.load_gen rfl (fun w hm => hS2.loadM1 (by decide) hm (by simp) ty_3 hk2 (v := .int .i64 m[k]) rfl)) rfl rfl rfl ?_
    refine RunL.val (Val.pure rfl) rfl rfl rfl ?_
    refine RunL.nil ?_
    refine RunE.next ?_
    refine RunC.seq ?_
    refine RunC.region ?_
    refine RunL.val (Val.pure rfl) rfl rfl rfl ?_
    refine RunL.val (Val.pure rfl) rfl rfl rfl ?_
    refine RunL.callP (isCall_func rfl ent_110) rfl rfl rfl (fun w hm => compare_calls _ _ w) ?_
    refine RunL.val (Val.pure rfl) rfl rfl rfl ?_
    refine RunL.nil ?_
    refine RunE.next ?_
    refine RunC.seq ?_
    refine RunC.region ?_
    refine RunL.val (Val.pure rfl) rfl rfl rfl ?_
    refine RunL.val (Val.pure rfl) rfl rfl rfl ?_
    refine RunL.nil ?_
    refine RunE.next ?_
    refine RunC.cond rfl ?_ ?_
    · intro c2
      have c2' := c2; clear c2
      try simp only [decide_eq_true_eq, decide_eq_false_iff_not, Bool.not_eq_true', Bool.not_eq_false', Bool.and_eq_true, Bool.or_eq_true, Bool.and_eq_false_iff, Bool.or_eq_false_iff, Int.not_le, Int.not_lt] at c2'
      have hne : l[k] ≠ m[k] := fun e => by (rw [e] at c2'; simp at c2')
      refine RunC.seq ?_
      refine RunC.region ?_
      refine RunL.val (Val.pure rfl) rfl rfl rfl ?_
      refine RunL.val (Val.pure rfl) rfl rfl rfl ?_
      refine RunL.nil ?_
      refine RunE.next ?_
      refine RunC.ret ?_
      refine RunE.block_ret ?_
      refine RunE.pass_ret ?_
      refine RunE.pass_ret ?_
      refine RunE.block_ret ?_
      refine RunE.pass_ret ?_
      exact RunE.retP (.r1 rfl (.tmp rfl)) (by rw [cmpL_hit hk hk2 kI]; rcases Int.lt_or_gt_of_ne hne with h | h; simp [h]; have h5 : ¬ l[k] < m[k] := (by omega); simp [h, h5])
    · intro c2
      have c2' := c2; clear c2
      try simp only [decide_eq_true_eq, decide_eq_false_iff_not, Bool.not_eq_true', Bool.not_eq_false', Bool.and_eq_true, Bool.or_eq_true, Bool.and_eq_false_iff, Bool.or_eq_false_iff, Int.not_le, Int.not_lt] at c2'
      have heq : l[k] = m[k] := by (rcases Int.lt_trichotomy l[k] m[k] with h | h | h; simp [h] at c2'; exact h; have h5 : ¬ l[k] < m[k] := (by omega); simp [h, h5] at c2')
      refine RunC.skip ?_
      refine RunE.block_normal ?_
      refine RunE.next ?_
      refine RunC.region ?_
      refine RunL.val (Val.add rfl rfl (IntWalk.i64_in _ ⟨by omega, by omega⟩)) rfl rfl rfl ?_
      refine RunL.val (Val.pure rfl) rfl rfl rfl ?_
      refine RunL.nil ?_
      exact RunE.round (by omega) (fun j h h1 h2 => by (rcases Nat.lt_or_ge j k with h4 | h4; exact kI j h4 h1 h2; have e : j = k := (by omega); subst e; exact heq)) rfl (Sub.consE (t := 11) rfl rfl (Sub.cons (t := 0) rfl (Sub.cons (t := 1) rfl (Sub.cons (t := 9) rfl (Sub.cons (t := 10) rfl (Sub.nil _)))))) .nil
  · intro c0
    have c0' := c0; clear c0
    try simp only [decide_eq_true_eq, decide_eq_false_iff_not, Bool.not_eq_true', Bool.not_eq_false', Bool.and_eq_true, Bool.or_eq_true, Bool.and_eq_false_iff, Bool.or_eq_false_iff, Int.not_le, Int.not_lt] at c0'
    obtain rfl : k = l.length := by omega
    refine RunC.exit ?_
    refine RunE.pass_exit ?_
    refine RunE.pass_exit ?_
    refine RunE.block_here ?_
    refine RunE.next ?_
    refine RunC.seq ?_
    refine RunC.seq ?_
    refine RunC.region ?_
    refine RunL.val (Val.pure rfl) rfl rfl rfl ?_
    refine RunL.val (Val.len_sl rfl sl_55) rfl rfl rfl ?_
    refine RunL.val (Val.pure rfl) rfl rfl rfl ?_
    refine RunL.val (Val.len_sl rfl sl_55) rfl rfl rfl ?_
    refine RunL.val (Val.pure rfl) rfl rfl rfl ?_
    refine RunL.nil ?_
    refine RunE.next ?_
    refine RunC.cond rfl (fun h => absurd h (by simp; omega)) ?_
    intro c3
    clear c3
    refine RunC.skip ?_
    refine RunE.next ?_
    refine RunC.seq ?_
    refine RunC.region ?_
    refine RunL.val (Val.pure rfl) rfl rfl rfl ?_
    refine RunL.nil ?_
    refine RunE.next ?_
    refine RunC.ret ?_
    exact RunE.retP (.r1 rfl (.tmp rfl)) (by rw [cmpL_same hlm (fun j h1 h2 => kI j h1 h1 h2)])
theorem Sl.row1At {w : World} {b : Nat} {T : TypeId} {pre cs : List Value} {fr : Nat × Nat} (h : w.heap[b]? = some (.cells (pre ++ cs).toArray T fr)) : Sl w (some ⟨b, pre.length, none⟩) b pre.length 1 (cs.map fun v => [v]) :=
  ⟨fun _ => rfl, by simp, fun i hi j hj => by
    obtain rfl : j = 0 := by omega
    have hi' : i < cs.length := by simpa using hi
    rw [cell_of_cells h, show pre.length + i * 1 + 0 = pre.length + i by omega, List.getElem?_append_right (by omega)]
    simp [hi']⟩
theorem bef_lt {a b : Tr} (h : sumT a < sumT b) : decide (befT a b) = true := decide_eq_true (.inl h)
theorem bef_eq {a b : Tr} (h : sumT a = sumT b) : decide (befT a b) = decide (cmpL [a.ll, a.lr, a.rl, a.rr] [b.ll, b.lr, b.rl, b.rr] < 0) := by
  refine decide_eq_decide.2 ?_
  rw [cmpL_lex]
  exact ⟨fun g => Or.elim (show sumT a < sumT b ∨ (sumT a = sumT b ∧ lexT a b) from g) (fun g => by omega) (·.2), fun g => Or.inr ⟨h, g⟩⟩
theorem bef_gt {a b : Tr} (h : sumT b ≤ sumT a) (h2 : ¬ sumT a = sumT b) : decide (befT a b) = false := decide_eq_false (fun g => g.elim (fun g => by omega) (fun g => h2 g.1))
theorem bef_same {a b : Tr} (h : sumT a = sumT b ∧ (a.ll = b.ll ∧ a.lr = b.lr ∧ a.rl = b.rl ∧ a.rr = b.rr ∧ True) ∧ True) : decide (befT a b) = false := decide_eq_false (fun g => by unfold befT lexT at g; omega)
def ordV (a : Tr) : Value := .agg #[.int .i64 (sumT a), .int .i64 a.ll, .int .i64 a.lr, .int .i64 a.rl, .int .i64 a.rr]
theorem before_calls (a b : Tr) (W : World) : Calls Tryz.prog 77 #[ordV a, ordV b] W (Pure (.bool (decide (befT a b))) W) := by
  have hlex := cmpL_lex a b
  refine calls_start Tryz.func77 rfl rfl ?_
  refine RunC.seq ?_
  refine RunC.region ?_
  refine RunL.new (New.box rfl) rfl rfl rfl (fun b2 => ?_)
  refine RunL.new (New.box rfl) rfl rfl rfl (fun b3 => ?_)
  refine RunL.val (Val.pure rfl) rfl rfl rfl ?_
  refine RunL.nil ?_
  refine RunE.next ?_
  refine RunC.seq ?_
  refine RunC.drawX (X := Unit) 20 (n0 := [(b3, _), (b2, _)]) (fun x q => (4, .bool (decide (befT a b))) :: q) (fun x => []) (fun x => []) (fun x => []) (fun x => True) fol_ (.cons .here rfl (.cons .here rfl .nil)) (Sub.cons (t := 2) rfl (Sub.cons (t := 3) rfl (Sub.nil _))) (.cons .here rfl (.cons .here rfl .nil)) ?_ ?_
  · refine RunA.val (i := 0) rfl (by kernel_rfl) (by kernel_rfl) (Val.load_agg rfl (.tail _ (.head _)) ty_118 rfl) rfl rfl rfl (fun _ _ _ h => h) (.cons .here rfl (.cons .here rfl .nil)) rfl ?_
    refine RunA.val (i := 1) rfl (by kernel_rfl) (by kernel_rfl) (Val.load_agg rfl (.head _) ty_118 rfl) rfl rfl rfl (fun _ _ _ h => h) (.cons .here rfl (.cons .here rfl .nil)) rfl ?_
    refine RunA.val (i := 2) rfl (by kernel_rfl) (by kernel_rfl) (Val.neq_flat rfl rfl eqB_118 (kl_118 _ _ _ _ _ _ _ _ _ _ )) rfl rfl rfl (fun _ _ _ h => h) (.cons .here rfl (.cons .here rfl .nil)) rfl ?_
    refine RunA.val (i := 3) rfl (by kernel_rfl) (by kernel_rfl) (Val.pure rfl) rfl rfl rfl (fun _ _ _ h => h) (.cons .here rfl (.cons .here rfl .nil)) rfl ?_
    refine RunA.ways (dj := 8) rfl ?_ ?_
    · intro g8
      have g8' := g8; clear g8
      try simp only [decide_eq_true_eq, decide_eq_false_iff_not, Bool.not_eq_true', Bool.not_eq_false', Bool.and_eq_true, Bool.or_eq_true, Bool.and_eq_false_iff, Bool.or_eq_false_iff, Int.not_le, Int.not_lt] at g8'
      refine RunA.val (i := 4) rfl (by kernel_rfl) (by kernel_rfl) (Val.fieldAddr rfl fld_118_0) rfl rfl rfl (fun _ _ _ h => h) (.cons .here rfl (.cons .here rfl .nil)) rfl ?_
      refine RunA.val (i := 5) rfl (by kernel_rfl) (by kernel_rfl) (Val.load_one rfl (.tail _ (.head _)) ty_3 rfl) rfl rfl rfl (fun _ _ _ h => h) (.cons .here rfl (.cons .here rfl .nil)) rfl ?_
      refine RunA.val (i := 6) rfl (by kernel_rfl) (by kernel_rfl) (Val.fieldAddr rfl fld_118_0) rfl rfl rfl (fun _ _ _ h => h) (.cons .here rfl (.cons .here rfl .nil)) rfl ?_
      refine RunA.val (i := 7) rfl (by kernel_rfl) (by kernel_rfl) (Val.load_one rfl (.head _) ty_3 rfl) rfl rfl rfl (fun _ _ _ h => h) (.cons .here rfl (.cons .here rfl .nil)) rfl ?_
      refine RunA.val (i := 8) rfl (by kernel_rfl) (by kernel_rfl) (Val.pure rfl) rfl rfl rfl (fun _ _ _ h => h) (.cons .here rfl (.cons .here rfl .nil)) rfl ?_
      refine RunA.val (i := 9) rfl (by kernel_rfl) (by kernel_rfl) (Val.pure rfl) rfl rfl rfl (fun _ _ _ h => h) (.cons .here rfl (.cons .here rfl .nil)) rfl ?_
      refine RunA.ways (dj := 14) rfl ?_ ?_
      · intro g14
        have g14' := g14; clear g14
        try simp only [decide_eq_true_eq, decide_eq_false_iff_not, Bool.not_eq_true', Bool.not_eq_false', Bool.and_eq_true, Bool.or_eq_true, Bool.and_eq_false_iff, Bool.or_eq_false_iff, Int.not_le, Int.not_lt] at g14'
        refine RunA.no (i := 10) rfl (by kernel_rfl) (by kernel_rfl) rfl rfl rfl (fun _ _ _ h => h) (.cons .here rfl (.cons .here rfl .nil)) rfl ?_
        refine RunA.no (i := 11) rfl (by kernel_rfl) (by kernel_rfl) rfl rfl rfl (fun _ _ _ h => h) (.cons .here rfl (.cons .here rfl .nil)) rfl ?_
        refine RunA.no (i := 12) rfl (by kernel_rfl) (by kernel_rfl) rfl rfl rfl (fun _ _ _ h => h) (.cons .here rfl (.cons .here rfl .nil)) rfl ?_
        refine RunA.no (i := 13) rfl (by kernel_rfl) (by kernel_rfl) rfl rfl rfl (fun _ _ _ h => h) (.cons .here rfl (.cons .here rfl .nil)) rfl ?_
        refine RunA.no (i := 14) rfl (by kernel_rfl) (by kernel_rfl) rfl rfl rfl (fun _ _ _ h => h) (.cons .here rfl (.cons .here rfl .nil)) rfl ?_
        refine RunA.no (i := 15) rfl (by kernel_rfl) (by kernel_rfl) rfl rfl rfl (fun _ _ _ h => h) (.cons .here rfl (.cons .here rfl .nil)) rfl ?_
        refine RunA.no (i := 16) rfl (by kernel_rfl) (by kernel_rfl) rfl rfl rfl (fun _ _ _ h => h) (.cons .here rfl (.cons .here rfl .nil)) rfl ?_
        refine RunA.no (i := 17) rfl (by kernel_rfl) (by kernel_rfl) rfl rfl rfl (fun _ _ _ h => h) (.cons .here rfl (.cons .here rfl .nil)) rfl ?_
        refine RunA.no (i := 18) rfl (by kernel_rfl) (by kernel_rfl) rfl rfl rfl (fun _ _ _ h => h) (.cons .here rfl (.cons .here rfl .nil)) rfl ?_
        refine RunA.no (i := 19) rfl (by kernel_rfl) (by kernel_rfl) rfl rfl rfl (fun _ _ _ h => h) (.cons .here rfl (.cons .here rfl .nil)) rfl ?_
        refine RunA.toB (by kernel_rfl) ?_
        refine RunB.one (i := 20) (by kernel_rfl) ?_
        refine RunI.no rfl rfl rfl rfl (RunK.toB ?_)
        refine RunB.one (i := 21) (by kernel_rfl) ?_
        refine RunI.no rfl rfl rfl rfl (RunK.toB ?_)
        refine RunB.one (i := 22) (by kernel_rfl) ?_
        refine RunI.no rfl rfl rfl rfl (RunK.toB ?_)
        refine RunB.one (i := 23) (by kernel_rfl) ?_
        refine RunI.val rfl (Val.pure rfl) rfl rfl rfl (RunK.toB ?_)
        refine RunB.one (i := 24) (by kernel_rfl) ?_
        refine RunI.val rfl (Val.pure rfl) rfl rfl rfl (RunK.toB ?_)
        refine RunB.one (i := 25) (by kernel_rfl) ?_
        refine RunI.val rfl (Val.pure rfl) rfl rfl rfl (RunK.toB ?_)
        refine RunB.done (by kernel_rfl) ?_
        exact RunE.joinX () trivial rfl (Sub.consE (t := 4) rfl (by first | rw [bef_lt g14'] | rw [bef_eq g20'] | rw [bef_gt g14' g20'] | rw [bef_same g8']) (Sub.cons (t := 2) rfl (Sub.cons (t := 3) rfl (Sub.nil _)))) (.cons .here rfl (.cons .here rfl .nil))
      · intro g14
        have g14' := g14; clear g14
        try simp only [decide_eq_true_eq, decide_eq_false_iff_not, Bool.not_eq_true', Bool.not_eq_false', Bool.and_eq_true, Bool.or_eq_true, Bool.and_eq_false_iff, Bool.or_eq_false_iff, Int.not_le, Int.not_lt] at g14'
        refine RunA.val (i := 10) rfl (by kernel_rfl) (by kernel_rfl) (Val.fieldAddr rfl fld_118_0) rfl rfl rfl (fun _ _ _ h => h) (.cons .here rfl (.cons .here rfl .nil)) rfl ?_
        refine RunA.val (i := 11) rfl (by kernel_rfl) (by kernel_rfl) (Val.load_one rfl (.tail _ (.head _)) ty_3 rfl) rfl rfl rfl (fun _ _ _ h => h) (.cons .here rfl (.cons .here rfl .nil)) rfl ?_
        refine RunA.val (i := 12) rfl (by kernel_rfl) (by kernel_rfl) (Val.fieldAddr rfl fld_118_0) rfl rfl rfl (fun _ _ _ h => h) (.cons .here rfl (.cons .here rfl .nil)) rfl ?_
        refine RunA.val (i := 13) rfl (by kernel_rfl) (by kernel_rfl) (Val.load_one rfl (.head _) ty_3 rfl) rfl rfl rfl (fun _ _ _ h => h) (.cons .here rfl (.cons .here rfl .nil)) rfl ?_
        refine RunA.val (i := 14) rfl (by kernel_rfl) (by kernel_rfl) (Val.pure rfl) rfl rfl rfl (fun _ _ _ h => h) (.cons .here rfl (.cons .here rfl .nil)) rfl ?_
        refine RunA.val (i := 15) rfl (by kernel_rfl) (by kernel_rfl) (Val.pure rfl) rfl rfl rfl (fun _ _ _ h => h) (.cons .here rfl (.cons .here rfl .nil)) rfl ?_
        refine RunA.ways (dj := 20) rfl ?_ ?_
        · intro g20
          have g20' := g20; clear g20
          try simp only [decide_eq_true_eq, decide_eq_false_iff_not, Bool.not_eq_true', Bool.not_eq_false', Bool.and_eq_true, Bool.or_eq_true, Bool.and_eq_false_iff, Bool.or_eq_false_iff, Int.not_le, Int.not_lt] at g20'
          refine RunA.val (i := 16) rfl (by kernel_rfl) (by kernel_rfl) (Val.fieldAddr rfl fld_118_1) rfl rfl rfl (fun _ _ _ h => h) (.cons .here rfl (.cons .here rfl .nil)) rfl ?_
          refine RunA.val (i := 17) rfl (by kernel_rfl) (by kernel_rfl) (Val.sliceArr rfl arr_60) rfl rfl rfl (fun _ _ _ h => h) (.cons .here rfl (.cons .here rfl .nil)) rfl ?_
          refine RunA.val (i := 18) rfl (by kernel_rfl) (by kernel_rfl) (Val.fieldAddr rfl fld_118_1) rfl rfl rfl (fun _ _ _ h => h) (.cons .here rfl (.cons .here rfl .nil)) rfl ?_
          refine RunA.val (i := 19) rfl (by kernel_rfl) (by kernel_rfl) (Val.sliceArr rfl arr_60) rfl rfl rfl (fun _ _ _ h => h) (.cons .here rfl (.cons .here rfl .nil)) rfl ?_
          refine RunA.toB (by kernel_rfl) ?_
          refine RunB.one (i := 20) (by kernel_rfl) ?_
          refine RunI.callP rfl (isCall_func rfl ent_99) rfl rfl rfl (fun w hm => cmpS_calls [a.ll, a.lr, a.rl, a.rr] [b.ll, b.lr, b.rl, b.rr] rfl (by simp) (some ⟨b2, 1, none⟩) b2 1 4 (some ⟨b3, 1, none⟩) b3 1 4 w (Sl.row1At (pre := [_]) (hm.at (.tail _ (.head _)))) (Sl.row1At (pre := [_]) (hm.at (.head _)))) (RunK.toB ?_)
          refine RunB.one (i := 21) (by kernel_rfl) ?_
          refine RunI.val rfl (Val.pure rfl) rfl rfl rfl (RunK.toB ?_)
          refine RunB.one (i := 22) (by kernel_rfl) ?_
          refine RunI.val rfl (Val.pure rfl) rfl rfl rfl (RunK.toB ?_)
          refine RunB.one (i := 23) (by kernel_rfl) ?_
          refine RunI.val rfl (Val.pure rfl) rfl rfl rfl (RunK.toB ?_)
          refine RunB.one (i := 24) (by kernel_rfl) ?_
          refine RunI.val rfl (Val.pure rfl) rfl rfl rfl (RunK.toB ?_)
          refine RunB.one (i := 25) (by kernel_rfl) ?_
          refine RunI.val rfl (Val.pure rfl) rfl rfl rfl (RunK.toB ?_)
          refine RunB.done (by kernel_rfl) ?_
          exact RunE.joinX () trivial rfl (Sub.consE (t := 4) rfl (by first | rw [bef_lt g14'] | rw [bef_eq g20'] | rw [bef_gt g14' g20'] | rw [bef_same g8']) (Sub.cons (t := 2) rfl (Sub.cons (t := 3) rfl (Sub.nil _)))) (.cons .here rfl (.cons .here rfl .nil))
        · intro g20
          have g20' := g20; clear g20
          try simp only [decide_eq_true_eq, decide_eq_false_iff_not, Bool.not_eq_true', Bool.not_eq_false', Bool.and_eq_true, Bool.or_eq_true, Bool.and_eq_false_iff, Bool.or_eq_false_iff, Int.not_le, Int.not_lt] at g20'
          refine RunA.no (i := 16) rfl (by kernel_rfl) (by kernel_rfl) rfl rfl rfl (fun _ _ _ h => h) (.cons .here rfl (.cons .here rfl .nil)) rfl ?_
          refine RunA.no (i := 17) rfl (by kernel_rfl) (by kernel_rfl) rfl rfl rfl (fun _ _ _ h => h) (.cons .here rfl (.cons .here rfl .nil)) rfl ?_
          refine RunA.no (i := 18) rfl (by kernel_rfl) (by kernel_rfl) rfl rfl rfl (fun _ _ _ h => h) (.cons .here rfl (.cons .here rfl .nil)) rfl ?_
          refine RunA.no (i := 19) rfl (by kernel_rfl) (by kernel_rfl) rfl rfl rfl (fun _ _ _ h => h) (.cons .here rfl (.cons .here rfl .nil)) rfl ?_
          refine RunA.toB (by kernel_rfl) ?_
          refine RunB.one (i := 20) (by kernel_rfl) ?_
          refine RunI.no rfl rfl rfl rfl (RunK.toB ?_)
          refine RunB.one (i := 21) (by kernel_rfl) ?_
          refine RunI.no rfl rfl rfl rfl (RunK.toB ?_)
          refine RunB.one (i := 22) (by kernel_rfl) ?_
          refine RunI.val rfl (Val.pure rfl) rfl rfl rfl (RunK.toB ?_)
          refine RunB.one (i := 23) (by kernel_rfl) ?_
          refine RunI.val rfl (Val.pure rfl) rfl rfl rfl (RunK.toB ?_)
          refine RunB.one (i := 24) (by kernel_rfl) ?_
          refine RunI.val rfl (Val.pure rfl) rfl rfl rfl (RunK.toB ?_)
          refine RunB.one (i := 25) (by kernel_rfl) ?_
          refine RunI.val rfl (Val.pure rfl) rfl rfl rfl (RunK.toB ?_)
          refine RunB.done (by kernel_rfl) ?_
          exact RunE.joinX () trivial rfl (Sub.consE (t := 4) rfl (by first | rw [bef_lt g14'] | rw [bef_eq g20'] | rw [bef_gt g14' g20'] | rw [bef_same g8']) (Sub.cons (t := 2) rfl (Sub.cons (t := 3) rfl (Sub.nil _)))) (.cons .here rfl (.cons .here rfl .nil))
    · intro g8
      have g8' := g8; clear g8
      try simp only [decide_eq_true_eq, decide_eq_false_iff_not, Bool.not_eq_true', Bool.not_eq_false', Bool.and_eq_true, Bool.or_eq_true, Bool.and_eq_false_iff, Bool.or_eq_false_iff, Int.not_le, Int.not_lt] at g8'
      refine RunA.no (i := 4) rfl (by kernel_rfl) (by kernel_rfl) rfl rfl rfl (fun _ _ _ h => h) (.cons .here rfl (.cons .here rfl .nil)) rfl ?_
      refine RunA.no (i := 5) rfl (by kernel_rfl) (by kernel_rfl) rfl rfl rfl (fun _ _ _ h => h) (.cons .here rfl (.cons .here rfl .nil)) rfl ?_
      refine RunA.no (i := 6) rfl (by kernel_rfl) (by kernel_rfl) rfl rfl rfl (fun _ _ _ h => h) (.cons .here rfl (.cons .here rfl .nil)) rfl ?_
      refine RunA.no (i := 7) rfl (by kernel_rfl) (by kernel_rfl) rfl rfl rfl (fun _ _ _ h => h) (.cons .here rfl (.cons .here rfl .nil)) rfl ?_
      refine RunA.no (i := 8) rfl (by kernel_rfl) (by kernel_rfl) rfl rfl rfl (fun _ _ _ h => h) (.cons .here rfl (.cons .here rfl .nil)) rfl ?_
      refine RunA.no (i := 9) rfl (by kernel_rfl) (by kernel_rfl) rfl rfl rfl (fun _ _ _ h => h) (.cons .here rfl (.cons .here rfl .nil)) rfl ?_
      refine RunA.no (i := 10) rfl (by kernel_rfl) (by kernel_rfl) rfl rfl rfl (fun _ _ _ h => h) (.cons .here rfl (.cons .here rfl .nil)) rfl ?_
      refine RunA.no (i := 11) rfl (by kernel_rfl) (by kernel_rfl) rfl rfl rfl (fun _ _ _ h => h) (.cons .here rfl (.cons .here rfl .nil)) rfl ?_
      refine RunA.no (i := 12) rfl (by kernel_rfl) (by kernel_rfl) rfl rfl rfl (fun _ _ _ h => h) (.cons .here rfl (.cons .here rfl .nil)) rfl ?_
      refine RunA.no (i := 13) rfl (by kernel_rfl) (by kernel_rfl) rfl rfl rfl (fun _ _ _ h => h) (.cons .here rfl (.cons .here rfl .nil)) rfl ?_
      refine RunA.no (i := 14) rfl (by kernel_rfl) (by kernel_rfl) rfl rfl rfl (fun _ _ _ h => h) (.cons .here rfl (.cons .here rfl .nil)) rfl ?_
      refine RunA.no (i := 15) rfl (by kernel_rfl) (by kernel_rfl) rfl rfl rfl (fun _ _ _ h => h) (.cons .here rfl (.cons .here rfl .nil)) rfl ?_
      refine RunA.no (i := 16) rfl (by kernel_rfl) (by kernel_rfl) rfl rfl rfl (fun _ _ _ h => h) (.cons .here rfl (.cons .here rfl .nil)) rfl ?_
      refine RunA.no (i := 17) rfl (by kernel_rfl) (by kernel_rfl) rfl rfl rfl (fun _ _ _ h => h) (.cons .here rfl (.cons .here rfl .nil)) rfl ?_
      refine RunA.no (i := 18) rfl (by kernel_rfl) (by kernel_rfl) rfl rfl rfl (fun _ _ _ h => h) (.cons .here rfl (.cons .here rfl .nil)) rfl ?_
      refine RunA.no (i := 19) rfl (by kernel_rfl) (by kernel_rfl) rfl rfl rfl (fun _ _ _ h => h) (.cons .here rfl (.cons .here rfl .nil)) rfl ?_
      refine RunA.toB (by kernel_rfl) ?_
      refine RunB.one (i := 20) (by kernel_rfl) ?_
      refine RunI.no rfl rfl rfl rfl (RunK.toB ?_)
      refine RunB.one (i := 21) (by kernel_rfl) ?_
      refine RunI.no rfl rfl rfl rfl (RunK.toB ?_)
      refine RunB.one (i := 22) (by kernel_rfl) ?_
      refine RunI.no rfl rfl rfl rfl (RunK.toB ?_)
      refine RunB.one (i := 23) (by kernel_rfl) ?_
      refine RunI.no rfl rfl rfl rfl (RunK.toB ?_)
      refine RunB.one (i := 24) (by kernel_rfl) ?_
      refine RunI.val rfl (Val.pure rfl) rfl rfl rfl (RunK.toB ?_)
      refine RunB.one (i := 25) (by kernel_rfl) ?_
      refine RunI.val rfl (Val.pure rfl) rfl rfl rfl (RunK.toB ?_)
      refine RunB.done (by kernel_rfl) ?_
      exact RunE.joinX () trivial rfl (Sub.consE (t := 4) rfl (by first | rw [bef_lt g14'] | rw [bef_eq g20'] | rw [bef_gt g14' g20'] | rw [bef_same g8']) (Sub.cons (t := 2) rfl (Sub.cons (t := 3) rfl (Sub.nil _)))) (.cons .here rfl (.cons .here rfl .nil))
  · intro x xI
    refine RunE.next ?_
    refine RunC.ret ?_
    exact RunE.retP (.r1 rfl (.tmp rfl)) (by first | rfl | simp)
end Go.Proofs.YthoheicppmbepaaGreat
