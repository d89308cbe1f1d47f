/- Walks of package heap: bytes, pieces, boxes. -/
import Derived.Test.YtlhdalcipflblaaDoorHs
import Derived.Test.YtlhdalcipflblaaDoorHy
set_option linter.unusedSimpArgs false
set_option linter.unusedVariables false
namespace Go.Hp
open Go Go.Eng Go.Pw1
def bytesV (l : Str) : List (List Value) := l.map fun c => [byteV c]
def strsV (l : List Str) : List (List Value) := l.map fun s => [.string (bs s)]
theorem take_count {α : Type} {f : α → Bool} {l : List α} {k : Nat} (hk : k < l.length) : (l.take (k + 1)).countP f = (l.take k).countP f + if f l[k] then 1 else 0 := by
  rw [List.take_succ_eq_append_getElem hk, List.countP_append]
  simp [List.countP_cons]
/-- A box, and where its titles lie. -/
structure BxA where
  bx : Bx
  q : Option Addr
  b : Nat
  o : Nat
  cap : Nat
def BxA.cells (x : BxA) : List Value := [.int .i64 x.bx.colour, .slice x.q x.bx.titles.length x.cap]
def Tn.cells (t : Tn) : List Value := [.int .i64 t.colour, .string (bs t.number), .string (bs t.text)]
def En.cells (t : En) : List Value := [.int .i64 t.colour, .string (bs t.number), .string (bs t.title)]
/-- Boxes with a heap, and where they lie. -/
structure MxA where
  bxs : List BxA
  q : Option Addr
  b : Nat
  o : Nat
  cap : Nat
  cards : List Tn
  q2 : Option Addr
  b2 : Nat
  o2 : Nat
  cap2 : Nat
def MxA.cells (m : MxA) : List Value := [.slice m.q m.bxs.length m.cap, .slice m.q2 m.cards.length m.cap2]
def MxA.v (m : MxA) : Value := .agg m.cells.toArray
def MxA.pl (m : MxA) : Mx := ⟨m.bxs.map (·.bx), m.cards⟩
def TOk (W : World) (x : BxA) : Prop := Sl W x.q x.b x.o 1 (strsV x.bx.titles)
structure MOk (W : World) (m : MxA) : Prop where
  bx : Sl W m.q m.b m.o 2 (m.bxs.map BxA.cells)
  ti : ∀ x ∈ m.bxs, TOk W x
  cd : Sl W m.q2 m.b2 m.o2 3 (m.cards.map Tn.cells)
theorem MOk.mono0 {W w : World} {m : MxA} {news : Blks} (h : MOk W m) (hm : Mem W [] news w) : MOk w m :=
  ⟨h.bx.mono (by decide) hm (by simp), fun x hx => (h.ti x hx).mono (by decide) hm (by simp), h.cd.mono (by decide) hm (by simp)⟩
/-- Nothing is far too long. -/
structure Small (m : Mx) : Prop where
  bx : m.boxes.length ≤ 1000
  cd : m.cards.length ≤ 1000
  ti : ∀ b ∈ m.boxes, b.titles.length ≤ 1000
  tx : ∀ b ∈ m.boxes, ∀ t ∈ b.titles, t.length ≤ 1000000
  nu : ∀ t ∈ m.cards, t.number.length ≤ 1000000 ∧ t.text.length ≤ 1000000
end Go.Hp
namespace Go.Proofs.YtlhdalcipflblaaDoor
open Go Go.Eng Go.Hp Go.Pw1

theorem hwithin_calls (n lo hi : Int) (W : World) : Calls Tryd.prog 53 #[.int .i64 n, .int .i64 lo, .int .i64 hi] W (Pure (.bool (within n lo hi)) W) := by
  refine calls_start Tryd.func53 rfl rfl ?_
  refine RunC.seq ?_
  refine RunC.region ?_
  refine RunL.val (Val.pure rfl) rfl rfl rfl ?_
  refine RunL.nil ?_
  refine RunE.next ?_
  refine RunC.seq ?_
  refine RunC.region ?_
  iterate 4 refine RunL.val (Val.pure rfl) rfl rfl rfl ?_
  refine RunL.andPart (dj := 10) (dp := 14) 4 rfl (fun g10 => by
    have g10' := g10
    try simp only [decide_eq_true_eq, decide_eq_false_iff_not, Bool.not_eq_true', Bool.not_eq_false', Bool.and_eq_true, Bool.or_eq_true, Bool.and_eq_false_iff, Bool.or_eq_false_iff, Int.not_le, Int.not_lt] at g10'
    iterate 4 refine RunL.val (Val.pure rfl) rfl rfl rfl ?_
    exact RunL.segEnd (Sub.cons rfl (Sub.skip rfl (Sub.skip rfl (Sub.skip rfl (Sub.skip rfl (Sub.same rfl (by rw [g10]) (Sub.refl _))))))) (List.Sublist.refl _)
  ) (fun g10 => by
    have g10' := g10
    try simp only [decide_eq_true_eq, decide_eq_false_iff_not, Bool.not_eq_true', Bool.not_eq_false', Bool.and_eq_true, Bool.or_eq_true, Bool.and_eq_false_iff, Bool.or_eq_false_iff, Int.not_le, Int.not_lt] at g10'
    iterate 3 refine RunL.no rfl rfl rfl ?_
    refine RunL.val (Val.pure rfl) rfl rfl rfl ?_
    exact RunL.segEnd (Sub.cons rfl (Sub.skip rfl (Sub.skip rfl (Sub.skip rfl (Sub.skip rfl (Sub.same rfl (by rw [g10]) (Sub.refl _))))))) (List.Sublist.refl _)
  ) ?_
  refine RunL.val (Val.pure rfl) rfl rfl rfl ?_
  refine RunL.nil ?_
  refine RunE.next ?_
  refine RunC.ret ?_
  exact RunE.retP (.r1 rfl (.tmp rfl)) (by first | rfl | simp)
theorem letter_calls (c : UInt8) (W : World) : Calls Tryd.prog 73 #[byteV c] W (Pure (.bool (letterX c)) W) := by
  refine calls_start Tryd.func73 rfl rfl ?_
  refine RunC.seq ?_
  refine RunC.region ?_
  refine RunL.val (Val.pure rfl) rfl rfl rfl ?_
  refine RunL.nil ?_
  refine RunE.next ?_
  refine RunC.seq ?_
  refine RunC.region ?_
  iterate 3 refine RunL.val (Val.pure rfl) rfl rfl rfl ?_
  refine RunL.andPart (dj := 5) (dp := 8) 3 rfl (fun g5 => by
    have g5' := g5
    try simp only [decide_eq_true_eq, decide_eq_false_iff_not, Bool.not_eq_true', Bool.not_eq_false', Bool.and_eq_true, Bool.or_eq_true, Bool.and_eq_false_iff, Bool.or_eq_false_iff, Int.not_le, Int.not_lt] at g5'
    iterate 3 refine RunL.val (Val.pure rfl) rfl rfl rfl ?_
    exact RunL.segEnd (Sub.cons rfl (Sub.skip rfl (Sub.skip rfl (Sub.skip rfl (Sub.same rfl (by rw [g5]) (Sub.refl _)))))) (List.Sublist.refl _)
  ) (fun g5 => by
    have g5' := g5
    try simp only [decide_eq_true_eq, decide_eq_false_iff_not, Bool.not_eq_true', Bool.not_eq_false', Bool.and_eq_true, Bool.or_eq_true, Bool.and_eq_false_iff, Bool.or_eq_false_iff, Int.not_le, Int.not_lt] at g5'
    refine RunL.no rfl rfl rfl ?_
    refine RunL.no rfl rfl rfl ?_
    refine RunL.val (Val.pure rfl) rfl rfl rfl ?_
    exact RunL.segEnd (Sub.cons rfl (Sub.skip rfl (Sub.skip rfl (Sub.skip rfl (Sub.same rfl (by rw [g5]) (Sub.refl _)))))) (List.Sublist.refl _)
  ) ?_
  refine RunL.val (Val.pure rfl) rfl rfl rfl ?_
  refine RunL.nil ?_
  refine RunE.next ?_
  refine RunC.ret ?_
  exact RunE.retP (.r1 rfl (.tmp rfl)) (by first | rfl | simp)
theorem digit_calls (c : UInt8) (W : World) : Calls Tryd.prog 89 #[byteV c] W (Pure (.bool (digitX c)) W) := by
  refine calls_start Tryd.func89 rfl rfl ?_
  refine RunC.seq ?_
  refine RunC.region ?_
  refine RunL.val (Val.pure rfl) rfl rfl rfl ?_
  refine RunL.nil ?_
  refine RunE.next ?_
  refine RunC.seq ?_
  refine RunC.region ?_
  iterate 3 refine RunL.val (Val.pure rfl) rfl rfl rfl ?_
  refine RunL.andPart (dj := 5) (dp := 8) 3 rfl (fun g5 => by
    have g5' := g5
    try simp only [decide_eq_true_eq, decide_eq_false_iff_not, Bool.not_eq_true', Bool.not_eq_false', Bool.and_eq_true, Bool.or_eq_true, Bool.and_eq_false_iff, Bool.or_eq_false_iff, Int.not_le, Int.not_lt] at g5'
    iterate 3 refine RunL.val (Val.pure rfl) rfl rfl rfl ?_
    exact RunL.segEnd (Sub.cons rfl (Sub.skip rfl (Sub.skip rfl (Sub.skip rfl (Sub.same rfl (by rw [g5]) (Sub.refl _)))))) (List.Sublist.refl _)
  ) (fun g5 => by
    have g5' := g5
    try simp only [decide_eq_true_eq, decide_eq_false_iff_not, Bool.not_eq_true', Bool.not_eq_false', Bool.and_eq_true, Bool.or_eq_true, Bool.and_eq_false_iff, Bool.or_eq_false_iff, Int.not_le, Int.not_lt] at g5'
    refine RunL.no rfl rfl rfl ?_
    refine RunL.no rfl rfl rfl ?_
    refine RunL.val (Val.pure rfl) rfl rfl rfl ?_
    exact RunL.segEnd (Sub.cons rfl (Sub.skip rfl (Sub.skip rfl (Sub.skip rfl (Sub.same rfl (by rw [g5]) (Sub.refl _)))))) (List.Sublist.refl _)
  ) ?_
  refine RunL.val (Val.pure rfl) rfl rfl rfl ?_
  refine RunL.nil ?_
  refine RunE.next ?_
  refine RunC.ret ?_
  exact RunE.retP (.r1 rfl (.tmp rfl)) (by first | rfl | simp)
theorem star_calls (c : UInt8) (W : World) : Calls Tryd.prog 87 #[byteV c] W (Pure (.bool (starX c)) W) := by
  refine calls_start Tryd.func87 rfl rfl ?_
  refine RunC.seq ?_
  refine RunC.region ?_
  refine RunL.val (Val.pure rfl) rfl rfl rfl ?_
  refine RunL.nil ?_
  refine RunE.next ?_
  refine RunC.seq ?_
  refine RunC.region ?_
  iterate 3 refine RunL.val (Val.pure rfl) rfl rfl rfl ?_
  refine RunL.nil ?_
  refine RunE.next ?_
  refine RunC.ret ?_
  exact RunE.retP (.r1 rfl (.tmp rfl)) (by first | rfl | simp)
theorem good_calls (c : UInt8) (W : World) : Calls Tryd.prog 88 #[byteV c] W (Pure (.bool (goodX c)) W) := by
  refine calls_start Tryd.func88 rfl rfl ?_
  refine RunC.seq ?_
  refine RunC.region ?_
  refine RunL.val (Val.pure rfl) rfl rfl rfl ?_
  refine RunL.nil ?_
  refine RunE.next ?_
  refine RunC.seq ?_
  refine RunC.region ?_
  refine RunL.val (Val.pure rfl) rfl rfl rfl ?_
  refine RunL.callP (isCall_func rfl ent_73) rfl rfl rfl (fun w hm => letter_calls _ w) ?_
  refine RunL.val (Val.pure rfl) rfl rfl rfl ?_
  refine RunL.orPart (dj := 5) (dp := 8) 3 rfl (fun g5 => by
    have g5' := g5
    try simp only [decide_eq_true_eq, decide_eq_false_iff_not, Bool.not_eq_true', Bool.not_eq_false', Bool.and_eq_true, Bool.or_eq_true, Bool.and_eq_false_iff, Bool.or_eq_false_iff, Int.not_le, Int.not_lt] at g5'
    refine RunL.val (Val.pure rfl) rfl rfl rfl ?_
    refine RunL.callP (isCall_func rfl ent_89) rfl rfl rfl (fun w hm => digit_calls _ w) ?_
    refine RunL.val (Val.pure rfl) rfl rfl rfl ?_
    exact RunL.segEnd (Sub.cons rfl (Sub.skip rfl (Sub.skip rfl (Sub.skip rfl (Sub.same rfl (by rw [g5]) (Sub.refl _)))))) (List.Sublist.refl _)
  ) (fun g5 => by
    have g5' := g5
    try simp only [decide_eq_true_eq, decide_eq_false_iff_not, Bool.not_eq_true', Bool.not_eq_false', Bool.and_eq_true, Bool.or_eq_true, Bool.and_eq_false_iff, Bool.or_eq_false_iff, Int.not_le, Int.not_lt] at g5'
    refine RunL.no rfl rfl rfl ?_
    refine RunL.no rfl rfl rfl ?_
    refine RunL.val (Val.pure rfl) rfl rfl rfl ?_
    exact RunL.segEnd (Sub.cons rfl (Sub.skip rfl (Sub.skip rfl (Sub.skip rfl (Sub.same rfl (by rw [g5]) (Sub.refl _)))))) (List.Sublist.refl _)
  ) ?_
  refine RunL.val (Val.pure rfl) rfl rfl rfl ?_
  refine RunL.orPart (dj := 9) (dp := 12) 3 rfl (fun g9 => by
    have g9' := g9
    try simp only [decide_eq_true_eq, decide_eq_false_iff_not, Bool.not_eq_true', Bool.not_eq_false', Bool.and_eq_true, Bool.or_eq_true, Bool.and_eq_false_iff, Bool.or_eq_false_iff, Int.not_le, Int.not_lt] at g9'
    iterate 3 refine RunL.val (Val.pure rfl) rfl rfl rfl ?_
    exact RunL.segEnd (Sub.cons rfl (Sub.skip rfl (Sub.skip rfl (Sub.skip rfl (Sub.same rfl (by rw [g9]) (Sub.refl _)))))) (List.Sublist.refl _)
  ) (fun g9 => by
    have g9' := g9
    try simp only [decide_eq_true_eq, decide_eq_false_iff_not, Bool.not_eq_true', Bool.not_eq_false', Bool.and_eq_true, Bool.or_eq_true, Bool.and_eq_false_iff, Bool.or_eq_false_iff, Int.not_le, Int.not_lt] at g9'
    refine RunL.no rfl rfl rfl ?_
    refine RunL.no rfl rfl rfl ?_
    refine RunL.val (Val.pure rfl) rfl rfl rfl ?_
    exact RunL.segEnd (Sub.cons rfl (Sub.skip rfl (Sub.skip rfl (Sub.skip rfl (Sub.same rfl (by rw [g9]) (Sub.refl _)))))) (List.Sublist.refl _)
  ) ?_
  refine RunL.val (Val.pure rfl) rfl rfl rfl ?_
  refine RunL.orPart (dj := 13) (dp := 16) 3 rfl (fun g13 => by
    have g13' := g13
    try simp only [decide_eq_true_eq, decide_eq_false_iff_not, Bool.not_eq_true', Bool.not_eq_false', Bool.and_eq_true, Bool.or_eq_true, Bool.and_eq_false_iff, Bool.or_eq_false_iff, Int.not_le, Int.not_lt] at g13'
    iterate 3 refine RunL.val (Val.pure rfl) rfl rfl rfl ?_
    exact RunL.segEnd (Sub.cons rfl (Sub.skip rfl (Sub.skip rfl (Sub.skip rfl (Sub.same rfl (by rw [g13]) (Sub.refl _)))))) (List.Sublist.refl _)
  ) (fun g13 => by
    have g13' := g13
    try simp only [decide_eq_true_eq, decide_eq_false_iff_not, Bool.not_eq_true', Bool.not_eq_false', Bool.and_eq_true, Bool.or_eq_true, Bool.and_eq_false_iff, Bool.or_eq_false_iff, Int.not_le, Int.not_lt] at g13'
    refine RunL.no rfl rfl rfl ?_
    refine RunL.no rfl rfl rfl ?_
    refine RunL.val (Val.pure rfl) rfl rfl rfl ?_
    exact RunL.segEnd (Sub.cons rfl (Sub.skip rfl (Sub.skip rfl (Sub.skip rfl (Sub.same rfl (by rw [g13]) (Sub.refl _)))))) (List.Sublist.refl _)
  ) ?_
  refine RunL.val (Val.pure rfl) rfl rfl rfl ?_
  refine RunL.nil ?_
  refine RunE.next ?_
  refine RunC.ret ?_
  exact RunE.retP (.r1 rfl (.tmp rfl)) (by first | rfl | simp)
theorem counted_calls (f : UInt8 → Bool) (l : Str) (q : Option Addr) (b o cap : Nat) (fn : FuncId) (W : World) (hS : Sl W q b o 1 (bytesV l)) (hl : l.length ≤ 100000000000) (he : Enters Tryd.prog fn)
    (hf : ∀ c w, Calls Tryd.prog fn #[byteV c] w (Pure (.bool (f c)) w)) :
    Calls Tryd.prog 72 #[.slice q l.length cap, .func (.func fn) #[] #[]] W (Pure (.int .i64 ((l.countP f : Nat) : Int)) W) := by
  refine calls_start Tryd.func72 rfl rfl ?_
  refine RunC.seq ?_
  refine RunC.region ?_
  refine RunL.val (Val.pure rfl) rfl rfl rfl ?_
  refine RunL.nil ?_
  refine RunE.next ?_
  refine RunC.seq ?_
  refine RunC.seq ?_
  refine RunC.region ?_
  refine RunL.val (Val.pure rfl) rfl rfl rfl ?_
  refine RunL.val (Val.len_sl rfl sl_47) rfl rfl rfl ?_
  refine RunL.val (Val.pure rfl) rfl rfl rfl ?_
  refine RunL.nil ?_
  refine RunE.next ?_
  refine RunC.block ?_
  refine RunC.loopK (l.length) (fun k q => (9, .int .i64 (k : Int)) :: (4, .int .i64 (((l.take k).countP f : Nat) : Int)) :: q) (fun _ => _) (fun _ => []) (fun _ => True) trivial rfl (Sub.consE (t := 9) rfl rfl (Sub.consE (t := 4) rfl rfl (Sub.cons (t := 0) rfl (Sub.cons (t := 1) rfl (Sub.cons (t := 7) rfl (Sub.cons (t := 8) rfl (Sub.nil _))))))) .nil ?_
  intro k kN kI
  clear kI
  refine RunC.seq ?_
  refine RunC.region ?_
  refine RunL.val (Val.pure rfl) rfl rfl rfl ?_
  refine RunL.nil ?_
  refine RunE.next ?_
  refine RunC.seq ?_
  refine RunC.cond rfl ?_ ?_
  · intro c0
    have c0' := c0; clear c0
    try simp only [decide_eq_true_eq, decide_eq_false_iff_not, Bool.not_eq_true', Bool.not_eq_false', Bool.and_eq_true, Bool.or_eq_true, Bool.and_eq_false_iff, Bool.or_eq_false_iff, Int.not_le, Int.not_lt] at c0'
    have hk : k < l.length := by omega
    have hcl := List.countP_le_length (p := f) (l := l.take k)
    rw [List.length_take] at hcl
    refine RunC.skip ?_
    refine RunE.next ?_
    refine RunC.seq ?_
    refine RunC.block ?_
    refine RunC.seq ?_
    refine RunC.region ?_
    refine RunL.val (Val.indexAddr_slp rfl rfl sl_47 (by omega) (by omega) (hS.ptrM hk)) rfl rfl rfl ?_
    refine RunL.val (Val.load_gen rfl (fun w hm => hS.loadM1 (by decide) hm (by simp) ty_5 hk (v := byteV l[k]) rfl)) rfl rfl rfl ?_
    refine RunL.val (Val.pure rfl) rfl rfl rfl ?_
    refine RunL.nil ?_
    refine RunE.next ?_
    refine RunC.seq ?_
    refine RunC.region ?_
    refine RunL.val (Val.pure rfl) rfl rfl rfl ?_
    refine RunL.val (Val.pure rfl) rfl rfl rfl ?_
    refine RunL.callP (isCall_value rfl rfl he) rfl rfl rfl (fun w hm => hf _ w) ?_
    refine RunL.nil ?_
    refine RunE.next ?_
    refine RunC.cond rfl ?_ ?_
    · intro c1
      have c1' := c1; clear c1
      try simp only [decide_eq_true_eq, decide_eq_false_iff_not, Bool.not_eq_true', Bool.not_eq_false', Bool.and_eq_true, Bool.or_eq_true, Bool.and_eq_false_iff, Bool.or_eq_false_iff, Int.not_le, Int.not_lt] at c1'
      refine RunC.region ?_
      refine RunL.val (Val.pure rfl) rfl rfl rfl ?_
      refine RunL.val (Val.add rfl rfl (IntWalk.i64_in _ ⟨by omega, by omega⟩)) rfl rfl rfl ?_
      refine RunL.val (Val.pure rfl) rfl rfl rfl ?_
      refine RunL.nil ?_
      refine RunE.block_normal ?_
      refine RunE.next ?_
      refine RunC.region ?_
      refine RunL.val (Val.add rfl rfl (IntWalk.i64_in _ ⟨by omega, by omega⟩)) rfl rfl rfl ?_
      refine RunL.val (Val.pure rfl) rfl rfl rfl ?_
      refine RunL.nil ?_
      exact RunE.round (by omega) trivial rfl (Sub.consE (t := 9) rfl rfl (Sub.consE (t := 4) rfl (by rw [take_count hk, c1']; simp) (Sub.cons (t := 0) rfl (Sub.cons (t := 1) rfl (Sub.cons (t := 7) rfl (Sub.cons (t := 8) rfl (Sub.nil _))))))) .nil
    · intro c1
      have c1' := c1; clear c1
      try simp only [decide_eq_true_eq, decide_eq_false_iff_not, Bool.not_eq_true', Bool.not_eq_false', Bool.and_eq_true, Bool.or_eq_true, Bool.and_eq_false_iff, Bool.or_eq_false_iff, Int.not_le, Int.not_lt] at c1'
      refine RunC.skip ?_
      refine RunE.block_normal ?_
      refine RunE.next ?_
      refine RunC.region ?_
      refine RunL.val (Val.add rfl rfl (IntWalk.i64_in _ ⟨by omega, by omega⟩)) rfl rfl rfl ?_
      refine RunL.val (Val.pure rfl) rfl rfl rfl ?_
      refine RunL.nil ?_
      exact RunE.round (by omega) trivial rfl (Sub.consE (t := 9) rfl rfl (Sub.consE (t := 4) rfl (by rw [take_count hk, c1']; simp) (Sub.cons (t := 0) rfl (Sub.cons (t := 1) rfl (Sub.cons (t := 7) rfl (Sub.cons (t := 8) rfl (Sub.nil _))))))) .nil
  · intro c0
    have c0' := c0; clear c0
    try simp only [decide_eq_true_eq, decide_eq_false_iff_not, Bool.not_eq_true', Bool.not_eq_false', Bool.and_eq_true, Bool.or_eq_true, Bool.and_eq_false_iff, Bool.or_eq_false_iff, Int.not_le, Int.not_lt] at c0'
    obtain rfl : k = l.length := by omega
    simp only [List.take_length]
    refine RunC.exit ?_
    refine RunE.pass_exit ?_
    refine RunE.pass_exit ?_
    refine RunE.block_here ?_
    refine RunE.next ?_
    refine RunC.seq ?_
    refine RunC.region ?_
    refine RunL.val (Val.pure rfl) rfl rfl rfl ?_
    refine RunL.val (Val.pure rfl) rfl rfl rfl ?_
    refine RunL.nil ?_
    refine RunE.next ?_
    refine RunC.ret ?_
    exact RunE.retP (.r1 rfl (.tmp rfl)) (by first | rfl | simp)
end Go.Proofs.YtlhdalcipflblaaDoor
