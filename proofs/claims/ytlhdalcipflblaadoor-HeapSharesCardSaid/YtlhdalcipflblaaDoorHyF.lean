/- The facts on the tables of types and on the entries of functions that the walks use. Written by program. -/
import Derived.Test.YtlhdalcipflblaaDoorHyE
import Derived.Test.YtlhdalcipflblaaDoorEngC
set_option linter.unusedSimpArgs false
set_option linter.unusedVariables false
namespace Go.Proofs.YtlhdalcipflblaaDoor
open Go Go.Eng
theorem boolB_4 : boolB Tryd.prog 4 = true := by kernel_rfl
theorem ent_12 : Enters Tryd.prog 12 := enters_of Tryd.func12 (by kernel_rfl) rfl
theorem ent_13 : Enters Tryd.prog 13 := enters_of Tryd.func13 (by kernel_rfl) rfl
theorem ent_33 : Enters Tryd.prog 33 := enters_of Tryd.func33 (by kernel_rfl) rfl
theorem ent_35 : Enters Tryd.prog 35 := enters_of Tryd.func35 (by kernel_rfl) rfl
theorem ent_36 : Enters Tryd.prog 36 := enters_of Tryd.func36 (by kernel_rfl) rfl
theorem ent_60 : Enters Tryd.prog 60 := enters_of Tryd.func60 (by kernel_rfl) rfl
theorem ent_61 : Enters Tryd.prog 61 := enters_of Tryd.func61 (by kernel_rfl) rfl
end Go.Proofs.YtlhdalcipflblaaDoor
