/- Walks of the laws of layer 3: MountEyes. -/
import Derived.Test.YthoheicppmbepaaGreatMm
import Derived.Test.YthoheicppmbepaaGreatEngB
set_option linter.unusedSimpArgs false
set_option linter.unusedVariables false
namespace Go.Proofs.YthoheicppmbepaaGreat
open Go Go.Eng Go.Pw1

abbrev spSh : Sh := .st [.int .i64, .int .i64]
abbrev plSh : Sh := .st [spSh, spSh]
abbrev thSh : Sh := .st [plSh, plSh, .int .i64]
abbrev prSh : Sh := .st [spSh, spSh, .int .i64, .int .i64, .int .i64, .sl thSh]
theorem rd_sp {w : World} {cs : List Value} (h : Rd w spSh cs) : ∃ s : Sp, cs = [.int .i64 s.lo, .int .i64 s.hi] := by
  cases h with
  | recS h1 h2 =>
    cases h1
    cases h2 with
    | recS h3 h4 =>
      cases h3
      cases h4
      exact ⟨⟨_, _⟩, rfl⟩
theorem rd_pl {w : World} {cs : List Value} (h : Rd w plSh cs) : ∃ s t : Sp, cs = [.int .i64 s.lo, .int .i64 s.hi, .int .i64 t.lo, .int .i64 t.hi] := by
  cases h with
  | recS h1 h2 =>
    obtain ⟨s, rfl⟩ := rd_sp h1
    cases h2 with
    | recS h3 h4 =>
      obtain ⟨t, rfl⟩ := rd_sp h3
      cases h4
      exact ⟨s, t, rfl⟩
theorem rd_th {w : World} {cs : List Value} (h : Rd w thSh cs) : ∃ t : Th, cs = t.cells := by
  cases h with
  | recS h1 h2 =>
    obtain ⟨a, b, rfl⟩ := rd_pl h1
    cases h2 with
    | recS h3 h4 =>
      obtain ⟨c, d, rfl⟩ := rd_pl h3
      cases h4 with
      | recS h5 h6 =>
        cases h5
        cases h6
        exact ⟨⟨a, b, c, d, _⟩, rfl⟩
theorem rows_of {α : Type} {f : α → List Value} : ∀ {xs : List (List Value)}, (∀ x ∈ xs, ∃ a, x = f a) → ∃ l : List α, xs = l.map f
  | [], _ => ⟨[], rfl⟩
  | x :: xs, h => by
    obtain ⟨a, rfl⟩ := h x (by simp)
    obtain ⟨l, rfl⟩ := rows_of (xs := xs) (fun y hy => h y (List.mem_cons_of_mem _ hy))
    exact ⟨a :: l, rfl⟩
/-- A pair that came in. -/
structure In (w : World) (p : Pr) (q : Option Addr) (b o cap : Nat) : Prop where
  s : Sl w q b o 9 (p.things.map Th.cells)
  n : q = none → p.things.length = 0 ∧ cap = 0
theorem rd_pr {w : World} {cs : List Value} (h : Rd w prSh cs) : ∃ (p : Pr) (q : Option Addr) (b o cap : Nat), cs = p.cells q cap ∧ In w p q b o cap := by
  cases h with
  | recS h1 h2 =>
  obtain ⟨f, rfl⟩ := rd_sp h1
  cases h2 with
  | recS h1 h2 =>
  obtain ⟨g, rfl⟩ := rd_sp h1
  cases h2 with
  | recS h1 h2 =>
  cases h1
  cases h2 with
  | recS h1 h2 =>
  cases h1
  cases h2 with
  | recS h1 h2 =>
  cases h1
  cases h2 with
  | recS h1 h2 =>
  cases h2
  cases h1 with
  | slNil => exact ⟨⟨f, g, _, _, _, []⟩, none, 0, 0, 0, rfl, ⟨Sl.emp, fun _ => ⟨rfl, rfl⟩⟩⟩
  | sl hs hl hc hx =>
    obtain ⟨ts, rfl⟩ := rows_of (f := Th.cells) (fun x hx' => rd_th (hx x hx'))
    exact ⟨⟨f, g, _, _, _, ts⟩, some _, _, _, _, by rw [List.length_map]; rfl, ⟨hs, fun h => by cases h⟩⟩
abbrev cdSh : Sh := .st [prSh, .int .i64, .int .i64, .int .i64, spSh, .int .i64, .int .i64, .int .i64, .int .i64]
abbrev cuSh : Sh := .st [.int .i64, .int .i64, .int .i64, .int .i64]
theorem rd_cd {w : World} {cs : List Value} (h : Rd w cdSh cs) : ∃ (c : Cd) (q : Option Addr) (b o cap : Nat), cs = c.cells q cap ∧ In w c.p q b o cap := by
  cases h with
  | recS h1 h2 =>
  obtain ⟨p, q, b, o, cap, rfl, hp⟩ := rd_pr h1
  cases h2 with
  | recS h1 h2 =>
  cases h1
  cases h2 with
  | recS h1 h2 =>
  cases h1
  cases h2 with
  | recS h1 h2 =>
  cases h1
  cases h2 with
  | recS h1 h2 =>
  obtain ⟨e, rfl⟩ := rd_sp h1
  cases h2 with
  | recS h1 h2 =>
  cases h1
  cases h2 with
  | recS h1 h2 =>
  cases h1
  cases h2 with
  | recS h1 h2 =>
  cases h1
  cases h2 with
  | recS h1 h2 =>
  cases h1
  cases h2
  exact ⟨⟨p, _, _, _, e, _, _, _, _⟩, q, b, o, cap, rfl, hp⟩
theorem rd_cu {w : World} {cs : List Value} (h : Rd w cuSh cs) : ∃ t : Tr, cs = t.cells := by
  cases h with
  | recS h1 h2 =>
  cases h1
  cases h2 with
  | recS h1 h2 =>
  cases h1
  cases h2 with
  | recS h1 h2 =>
  cases h1
  cases h2 with
  | recS h1 h2 =>
  cases h1
  cases h2
  exact ⟨⟨_, _, _, _⟩, rfl⟩
end Go.Proofs.YthoheicppmbepaaGreat
