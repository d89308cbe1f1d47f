/- The facts on the tables of types and on the entries of functions that the walks use. Written by program. -/
import Derived.Test.YtlhdalcipflblaaDoorHy3
import Derived.Test.YtlhdalcipflblaaDoorEngC
set_option linter.unusedSimpArgs false
set_option linter.unusedVariables false
namespace Go.Proofs.YtlhdalcipflblaaDoor
open Go Go.Eng
theorem ent_51 : Enters Tryd.prog 51 := enters_of Tryd.func51 (by kernel_rfl) rfl
theorem ent_70 : Enters Tryd.prog 70 := enters_of Tryd.func70 (by kernel_rfl) rfl
theorem sls_70 : Tryd.prog.underlying 70 = some (.slice 68) := by kernel_rfl
theorem zero_84 : zeroB Tryd.prog 84 = some [.nilFunc] := by kernel_rfl
end Go.Proofs.YtlhdalcipflblaaDoor
