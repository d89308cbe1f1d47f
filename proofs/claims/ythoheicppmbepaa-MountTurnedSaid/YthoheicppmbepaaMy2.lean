/- The facts on the tables of types and on the entries of functions that the walks use. Written by program. -/
import Derived.Test.YthoheicppmbepaaMy1
import Derived.Test.YthoheicppmbepaaEngC
set_option linter.unusedSimpArgs false
set_option linter.unusedVariables false
namespace Go.Proofs.Ythoheicppmbepaa
open Go Go.Eng
theorem ap_24 : apB Try.prog 24 = some (46, 9, 72) := by kernel_rfl
theorem boolB_4 : boolB Try.prog 4 = true := by kernel_rfl
theorem ent_16 : Enters Try.prog 16 := enters_of Try.func16 (by kernel_rfl) rfl
theorem ent_27 : Enters Try.prog 27 := enters_of Try.func27 (by kernel_rfl) rfl
theorem ent_30 : Enters Try.prog 30 := enters_of Try.func30 (by kernel_rfl) rfl
theorem ent_31 : Enters Try.prog 31 := enters_of Try.func31 (by kernel_rfl) rfl
theorem und_5 : Try.prog.underlying 5 = some (.int .u8) := by kernel_rfl
theorem und_59 : Try.prog.underlying 59 = some (.int .u32) := by kernel_rfl
end Go.Proofs.Ythoheicppmbepaa
