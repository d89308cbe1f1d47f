/- What the arguments of the laws read as: pairs and glaciers. -/
import Derived.Test.YtjijeeadmhpfcaaYm
import Derived.Test.YtjijeeadmhpfcaaJoin
set_option linter.unusedSimpArgs false
set_option linter.unusedVariables false
namespace Go.Proofs.Ytjijeeadmhpfcaa
open Go Go.Eng Go.Pw1

abbrev spSh : Sh := .st [.int .i64, .int .i64]
abbrev plSh : Sh := .st [spSh, spSh]
abbrev thSh : Sh := .st [plSh, plSh, .int .i64]
abbrev prSh : Sh := .st [spSh, spSh, .int .i64, .int .i64, .int .i64, .sl thSh]
theorem rd_sp {w : World} {cs : List Value} (h : Rd w spSh cs) : ∃ s : Sp, cs = [.int .i64 s.lo, .int .i64 s.hi] := by
  cases h with
  | recS h1 h2 =>
    cases h1
    cases h2 with
    | recS h3 h4 =>
      cases h3
      cases h4
      exact ⟨⟨_, _⟩, rfl⟩
theorem rd_pl {w : World} {cs : List Value} (h : Rd w plSh cs) : ∃ s t : Sp, cs = [.int .i64 s.lo, .int .i64 s.hi, .int .i64 t.lo, .int .i64 t.hi] := by
  cases h with
  | recS h1 h2 =>
    obtain ⟨s, rfl⟩ := rd_sp h1
    cases h2 with
    | recS h3 h4 =>
      obtain ⟨t, rfl⟩ := rd_sp h3
      cases h4
      exact ⟨s, t, rfl⟩
theorem rd_th {w : World} {cs : List Value} (h : Rd w thSh cs) : ∃ t : Th, cs = t.cells := by
  cases h with
  | recS h1 h2 =>
    obtain ⟨a, b, rfl⟩ := rd_pl h1
    cases h2 with
    | recS h3 h4 =>
      obtain ⟨c, d, rfl⟩ := rd_pl h3
      cases h4 with
      | recS h5 h6 =>
        cases h5
        cases h6
        exact ⟨⟨a, b, c, d, _⟩, rfl⟩
theorem rows_of {α : Type} {f : α → List Value} : ∀ {xs : List (List Value)}, (∀ x ∈ xs, ∃ a, x = f a) → ∃ l : List α, xs = l.map f
  | [], _ => ⟨[], rfl⟩
  | x :: xs, h => by
    obtain ⟨a, rfl⟩ := h x (by simp)
    obtain ⟨l, rfl⟩ := rows_of (xs := xs) (fun y hy => h y (List.mem_cons_of_mem _ hy))
    exact ⟨a :: l, rfl⟩
/-- A pair that came in. -/
structure In (w : World) (p : Pr) (q : Option Addr) (b o cap : Nat) : Prop where
  s : Sl w q b o 9 (p.things.map Th.cells)
theorem rd_pr {w : World} {cs : List Value} (h : Rd w prSh cs) : ∃ (p : Pr) (q : Option Addr) (b o cap : Nat), cs = p.cells q cap ∧ In w p q b o cap := by
  cases h with
  | recS h1 h2 =>
  obtain ⟨f, rfl⟩ := rd_sp h1
  cases h2 with
  | recS h1 h2 =>
  obtain ⟨g, rfl⟩ := rd_sp h1
  cases h2 with
  | recS h1 h2 =>
  cases h1
  cases h2 with
  | recS h1 h2 =>
  cases h1
  cases h2 with
  | recS h1 h2 =>
  cases h1
  cases h2 with
  | recS h1 h2 =>
  cases h2
  cases h1 with
  | slNil => exact ⟨⟨f, g, _, _, _, []⟩, none, 0, 0, 0, rfl, ⟨Sl.emp⟩⟩
  | sl hs hl hc hx =>
    obtain ⟨ts, rfl⟩ := rows_of (f := Th.cells) (fun x hx' => rd_th (hx x hx'))
    exact ⟨⟨f, g, _, _, _, ts⟩, some _, _, _, _, by rw [List.length_map]; rfl, ⟨hs⟩⟩
abbrev glSh : Sh := .st [prSh, prSh, .int .i64, .int .i64]
/-- A glacier's slices. -/
structure GSl (w : World) (g : Gl) (a : Ga) : Prop where
  s1 : Sl w a.q1 a.b1 a.o1 9 (g.f.things.map Th.cells)
  s2 : Sl w a.q2 a.b2 a.o2 9 (g.s.things.map Th.cells)
theorem GSl.mono {W w : World} {g : Gl} {a : Ga} {news : Blks} (h : GSl W g a) (hm : Mem W [] news w) : GSl w g a := ⟨h.s1.mono (by decide) hm (by simp), h.s2.mono (by decide) hm (by simp)⟩
theorem rd_gl {w : World} {cs : List Value} (h : Rd w glSh cs) : ∃ (g : Gl) (a : Ga), cs = g.cells a ∧ GSl w g a := by
  cases h with
  | recS h1 h2 =>
  obtain ⟨f, q1, b1, o1, c1, rfl, hf⟩ := rd_pr h1
  cases h2 with
  | recS h1 h2 =>
  obtain ⟨s, q2, b2, o2, c2, rfl, hs⟩ := rd_pr h1
  cases h2 with
  | recS h1 h2 =>
  cases h1
  cases h2 with
  | recS h1 h2 =>
  cases h1
  cases h2
  exact ⟨⟨f, s, _, _⟩, ⟨q1, b1, o1, c1, q2, b2, o2, c2⟩, rfl, ⟨hf.s, hs.s⟩⟩
end Go.Proofs.Ytjijeeadmhpfcaa
