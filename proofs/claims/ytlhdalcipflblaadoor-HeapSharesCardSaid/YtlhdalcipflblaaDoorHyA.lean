/- The facts on the tables of types and on the entries of functions that the walks use. Written by program. -/
import Derived.Test.YtlhdalcipflblaaDoorHy9
import Derived.Test.YtlhdalcipflblaaDoorEngC
set_option linter.unusedSimpArgs false
set_option linter.unusedVariables false
namespace Go.Proofs.YtlhdalcipflblaaDoor
open Go Go.Eng
theorem ent_44 : Enters Tryd.prog 44 := enters_of Tryd.func44 (by kernel_rfl) rfl
theorem ent_65 : Enters Tryd.prog 65 := enters_of Tryd.func65 (by kernel_rfl) rfl
theorem ty_28 : tyB Tryd.prog 28 = some (false, 1) := by kernel_rfl
theorem zero_28 : zeroB Tryd.prog 28 = some [.int .i64 0] := by kernel_rfl
end Go.Proofs.YtlhdalcipflblaaDoor
