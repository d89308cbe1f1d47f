/- The facts on the tables of types and on the entries of functions that the walks use. Written by program. -/
import Derived.Test.YtlhdalcipflblaaDoorProg
import Derived.Test.YtlhdalcipflblaaDoorEngC
set_option linter.unusedSimpArgs false
set_option linter.unusedVariables false
namespace Go.Proofs.YtlhdalcipflblaaDoor
open Go Go.Eng
theorem ent_104 : Enters Tryd.prog 104 := enters_of Tryd.func104 (by kernel_rfl) rfl
theorem ent_107 : Enters Tryd.prog 107 := enters_of Tryd.func107 (by kernel_rfl) rfl
theorem ent_128 : Enters Tryd.prog 128 := enters_of Tryd.func128 (by kernel_rfl) rfl
theorem ent_53 : Enters Tryd.prog 53 := enters_of Tryd.func53 (by kernel_rfl) rfl
theorem ent_72 : Enters Tryd.prog 72 := enters_of Tryd.func72 (by kernel_rfl) rfl
theorem ent_73 : Enters Tryd.prog 73 := enters_of Tryd.func73 (by kernel_rfl) rfl
theorem ent_77 : Enters Tryd.prog 77 := enters_of Tryd.func77 (by kernel_rfl) rfl
theorem ent_87 : Enters Tryd.prog 87 := enters_of Tryd.func87 (by kernel_rfl) rfl
theorem ent_88 : Enters Tryd.prog 88 := enters_of Tryd.func88 (by kernel_rfl) rfl
theorem ent_89 : Enters Tryd.prog 89 := enters_of Tryd.func89 (by kernel_rfl) rfl
theorem ent_93 : Enters Tryd.prog 93 := enters_of Tryd.func93 (by kernel_rfl) rfl
theorem ent_98 : Enters Tryd.prog 98 := enters_of Tryd.func98 (by kernel_rfl) rfl
theorem fld_131_0 : fieldB Tryd.prog 131 0 = some 0 := by kernel_rfl
theorem fld_131_1 : fieldB Tryd.prog 131 1 = some 1 := by kernel_rfl
theorem fld_50_0 : fieldB Tryd.prog 50 0 = some 0 := by kernel_rfl
theorem fld_50_1 : fieldB Tryd.prog 50 1 = some 1 := by kernel_rfl
theorem fld_50_2 : fieldB Tryd.prog 50 2 = some 2 := by kernel_rfl
theorem fol_ : Tryd.prog.follows .mixedOrders = true := by kernel_rfl
theorem noif_129 : (Tryd.prog.underlying 129).any (fun t => match t with | .interface _ => false | _ => true) = true := by kernel_rfl
theorem noif_131 : (Tryd.prog.underlying 131).any (fun t => match t with | .interface _ => false | _ => true) = true := by kernel_rfl
theorem places_131 : placesB Tryd.prog 131 = some [(0, 1), (1, 1)] := by kernel_rfl
theorem sl_47 : slB Tryd.prog 47 = some (5, 1) := by kernel_rfl
theorem sls_47 : Tryd.prog.underlying 47 = some (.slice 5) := by kernel_rfl
theorem ty_129 : tyB Tryd.prog 129 = some (false, 1) := by kernel_rfl
theorem ty_3 : tyB Tryd.prog 3 = some (false, 1) := by kernel_rfl
theorem ty_5 : tyB Tryd.prog 5 = some (false, 1) := by kernel_rfl
theorem ty_9 : tyB Tryd.prog 9 = some (false, 1) := by kernel_rfl
theorem und_129 : Tryd.prog.underlying 129 = some (.string) := by kernel_rfl
theorem und_5 : Tryd.prog.underlying 5 = some (.int .u8) := by kernel_rfl
theorem und_9 : Tryd.prog.underlying 9 = some (.string) := by kernel_rfl
theorem zero_131 : zeroB Tryd.prog 131 = some [.string ⟨#[]⟩, .string ⟨#[]⟩] := by kernel_rfl
end Go.Proofs.YtlhdalcipflblaaDoor
