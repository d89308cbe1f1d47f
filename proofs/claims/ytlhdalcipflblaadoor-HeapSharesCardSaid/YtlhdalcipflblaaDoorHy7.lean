/- The facts on the tables of types and on the entries of functions that the walks use. Written by program. -/
import Derived.Test.YtlhdalcipflblaaDoorHy6
import Derived.Test.YtlhdalcipflblaaDoorEngC
set_option linter.unusedSimpArgs false
set_option linter.unusedVariables false
namespace Go.Proofs.YtlhdalcipflblaaDoor
open Go Go.Eng
theorem ap_34 : apB Tryd.prog 34 = some (3, 1, 8) := by kernel_rfl
theorem ent_57 : Enters Tryd.prog 57 := enters_of Tryd.func57 (by kernel_rfl) rfl
theorem sl_34 : slB Tryd.prog 34 = some (3, 1) := by kernel_rfl
theorem zero_64 : zeroB Tryd.prog 64 = some [.pointer none] := by kernel_rfl
end Go.Proofs.YtlhdalcipflblaaDoor
