/- The engine: more facts on one operation. No program is in sight. -/
import Derived.Test.YthoheicppmbepaaMore
namespace Go.Eng
open Go Go.RowKit

section
variable {P : Program} {r : Regs} {W : World} {chg news : Blks}
variable {ty : TypeId} {pos : String} {after : Array Edge} {dst : Option Tmp} {gd : Option (Nat × Bool)}
def boolB (P : Program) (T : TypeId) : Bool := match P.underlying T with | some .bool => !P.eqGuardType P.depth T | _ => false
theorem boolB_und {T : TypeId} (h : boolB P T = true) : P.underlying T = some .bool ∧ P.eqGuardType P.depth T = false := by
  unfold boolB at h
  split at h
  · rename_i hu; exact ⟨hu, by simpa using h⟩
  · cases h
theorem Val.eql_bool {x y : Operand} {T yt : TypeId} {a b : Bool} (hx : rev r x = some (.bool a)) (hy : rev r y = some (.bool b)) (h : boolB P T = true) :
    Val P r W chg news { dst, op := .binOp .eql T x y yt, type := ty, pos, after, guard := gd } (.bool (a == b)) :=
  ⟨fun ac w ha _ => by
    obtain ⟨hu, hg⟩ := boolB_und h
    have h1 : (Op.equal T (.bool a) (.bool b)).run P w = .ok (a == b) w := by
      show (Op.equalIn (9999 + 1) T (.bool a) (.bool b)).run P w = _
      rw [Op.equalIn]
      simp [run_underlying hu]
    simp [execOp, ha.eval hx, ha.eval hy, eqGuard, hg, binOp, h1]⟩
theorem Val.neq_bool {x y : Operand} {T yt : TypeId} {a b : Bool} (hx : rev r x = some (.bool a)) (hy : rev r y = some (.bool b)) (h : boolB P T = true) :
    Val P r W chg news { dst, op := .binOp .neq T x y yt, type := ty, pos, after, guard := gd } (.bool (!(a == b))) :=
  ⟨fun ac w ha _ => by
    obtain ⟨hu, hg⟩ := boolB_und h
    have h1 : (Op.equal T (.bool a) (.bool b)).run P w = .ok (a == b) w := by
      show (Op.equalIn (9999 + 1) T (.bool a) (.bool b)).run P w = _
      rw [Op.equalIn]
      simp [run_underlying hu]
    simp [execOp, ha.eval hx, ha.eval hy, eqGuard, hg, binOp, h1]⟩
end
end Go.Eng
