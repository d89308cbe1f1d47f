/- The facts on the tables of types and on the entries of functions that the walks use. Written by program. -/
import Derived.Test.YtlhdalcipflblaaDoorHyF
import Derived.Test.YtlhdalcipflblaaDoorEngC
set_option linter.unusedSimpArgs false
set_option linter.unusedVariables false
namespace Go.Proofs.YtlhdalcipflblaaDoor
open Go Go.Eng
theorem ap_53 : apB Tryd.prog 53 = some (56, 3, 40) := by kernel_rfl
theorem ent_34 : Enters Tryd.prog 34 := enters_of Tryd.func34 (by kernel_rfl) rfl
theorem places_56 : placesB Tryd.prog 56 = some [(0, 1), (1, 1), (2, 1)] := by kernel_rfl
theorem sl_53 : slB Tryd.prog 53 = some (56, 3) := by kernel_rfl
theorem zero_56 : zeroB Tryd.prog 56 = some [.int .i64 0, .string ⟨#[]⟩, .string ⟨#[]⟩] := by kernel_rfl
end Go.Proofs.YtlhdalcipflblaaDoor
