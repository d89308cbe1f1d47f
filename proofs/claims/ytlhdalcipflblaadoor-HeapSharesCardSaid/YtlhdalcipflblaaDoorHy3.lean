/- The facts on the tables of types and on the entries of functions that the walks use. Written by program. -/
import Derived.Test.YtlhdalcipflblaaDoorHy2
import Derived.Test.YtlhdalcipflblaaDoorEngC
set_option linter.unusedSimpArgs false
set_option linter.unusedVariables false
namespace Go.Proofs.YtlhdalcipflblaaDoor
open Go Go.Eng
theorem ent_45 : Enters Tryd.prog 45 := enters_of Tryd.func45 (by kernel_rfl) rfl
theorem ent_68 : Enters Tryd.prog 68 := enters_of Tryd.func68 (by kernel_rfl) rfl
theorem fld_73_0 : fieldB Tryd.prog 73 0 = some 0 := by kernel_rfl
theorem fld_73_3 : fieldB Tryd.prog 73 3 = some 4 := by kernel_rfl
theorem keyed_71 : Keyed Tryd.prog 71 102 3 := ⟨by kernel_rfl, by kernel_rfl, by kernel_rfl, fun a b c d => by kernel_rfl⟩
theorem places_102 : placesB Tryd.prog 102 = some [(0, 1), (1, 1)] := by kernel_rfl
theorem ty_64 : tyB Tryd.prog 64 = some (false, 1) := by kernel_rfl
theorem ty_71 : tyB Tryd.prog 71 = some (false, 1) := by kernel_rfl
theorem ty_84 : tyB Tryd.prog 84 = some (false, 1) := by kernel_rfl
theorem zeroV_3 : zeroV Tryd.prog 3 = some (.int .i64 0) := by kernel_rfl
theorem zero_102 : zeroB Tryd.prog 102 = some [.int .i64 0, .int .u64 0] := by kernel_rfl
end Go.Proofs.YtlhdalcipflblaaDoor
