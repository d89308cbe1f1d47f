/- The facts on the tables of types and on the entries of functions that the walks use. Written by program. -/
import Derived.Test.YtlhdalcipflblaaDoorHyB
import Derived.Test.YtlhdalcipflblaaDoorEngC
set_option linter.unusedSimpArgs false
set_option linter.unusedVariables false
namespace Go.Proofs.YtlhdalcipflblaaDoor
open Go Go.Eng
theorem ent_42 : Enters Tryd.prog 42 := enters_of Tryd.func42 (by kernel_rfl) rfl
end Go.Proofs.YtlhdalcipflblaaDoor
