/- The facts on the tables of types and on the entries of functions that the walks use. Written by program. -/
import Derived.Test.YtlhdalcipflblaaDoorHyC
import Derived.Test.YtlhdalcipflblaaDoorEngC
set_option linter.unusedSimpArgs false
set_option linter.unusedVariables false
namespace Go.Proofs.YtlhdalcipflblaaDoor
open Go Go.Eng
theorem ap_23 : apB Tryd.prog 23 = some (50, 3, 40) := by kernel_rfl
theorem ent_31 : Enters Tryd.prog 31 := enters_of Tryd.func31 (by kernel_rfl) rfl
theorem ent_38 : Enters Tryd.prog 38 := enters_of Tryd.func38 (by kernel_rfl) rfl
theorem places_25 : placesB Tryd.prog 25 = some [(0, 1), (1, 1)] := by kernel_rfl
theorem places_46 : placesB Tryd.prog 46 = some [(0, 1), (1, 1)] := by kernel_rfl
theorem places_50 : placesB Tryd.prog 50 = some [(0, 1), (1, 1), (2, 1)] := by kernel_rfl
theorem und_21 : Tryd.prog.underlying 21 = some (.int .i32) := by kernel_rfl
theorem zero_25 : zeroB Tryd.prog 25 = some [.slice none 0 0, .slice none 0 0] := by kernel_rfl
theorem zero_9 : zeroB Tryd.prog 9 = some [.string ⟨#[]⟩] := by kernel_rfl
end Go.Proofs.YtlhdalcipflblaaDoor
