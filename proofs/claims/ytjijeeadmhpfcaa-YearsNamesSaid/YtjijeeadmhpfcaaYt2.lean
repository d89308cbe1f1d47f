/- The facts on the tables of types and on the entries of functions that the later walks use. Written by program. -/
import Derived.Test.YtjijeeadmhpfcaaYt
import Derived.Test.YtjijeeadmhpfcaaMore7
set_option linter.unusedSimpArgs false
set_option linter.unusedVariables false
namespace Go.Proofs.Ytjijeeadmhpfcaa
open Go Go.Eng
theorem ent_10 : Enters Try.prog 10 := enters_of Try.func10 (by kernel_rfl) rfl
theorem ent_11 : Enters Try.prog 11 := enters_of Try.func11 (by kernel_rfl) rfl
theorem ent_12 : Enters Try.prog 12 := enters_of Try.func12 (by kernel_rfl) rfl
theorem ent_13 : Enters Try.prog 13 := enters_of Try.func13 (by kernel_rfl) rfl
theorem ent_14 : Enters Try.prog 14 := enters_of Try.func14 (by kernel_rfl) rfl
theorem ent_15 : Enters Try.prog 15 := enters_of Try.func15 (by kernel_rfl) rfl
theorem ent_16 : Enters Try.prog 16 := enters_of Try.func16 (by kernel_rfl) rfl
theorem ent_17 : Enters Try.prog 17 := enters_of Try.func17 (by kernel_rfl) rfl
theorem ent_18 : Enters Try.prog 18 := enters_of Try.func18 (by kernel_rfl) rfl
theorem ent_19 : Enters Try.prog 19 := enters_of Try.func19 (by kernel_rfl) rfl
theorem ent_20 : Enters Try.prog 20 := enters_of Try.func20 (by kernel_rfl) rfl
theorem ent_21 : Enters Try.prog 21 := enters_of Try.func21 (by kernel_rfl) rfl
theorem ent_24 : Enters Try.prog 24 := enters_of Try.func24 (by kernel_rfl) rfl
theorem ent_25 : Enters Try.prog 25 := enters_of Try.func25 (by kernel_rfl) rfl
theorem ent_38 : Enters Try.prog 38 := enters_of Try.func38 (by kernel_rfl) rfl
theorem ent_39 : Enters Try.prog 39 := enters_of Try.func39 (by kernel_rfl) rfl
theorem ent_44 : Enters Try.prog 44 := enters_of Try.func44 (by kernel_rfl) rfl
theorem ent_50 : Enters Try.prog 50 := enters_of Try.func50 (by kernel_rfl) rfl
theorem ent_52 : Enters Try.prog 52 := enters_of Try.func52 (by kernel_rfl) rfl
theorem ent_54 : Enters Try.prog 54 := enters_of Try.func54 (by kernel_rfl) rfl
theorem ent_55 : Enters Try.prog 55 := enters_of Try.func55 (by kernel_rfl) rfl
theorem ent_56 : Enters Try.prog 56 := enters_of Try.func56 (by kernel_rfl) rfl
theorem ent_62 : Enters Try.prog 62 := enters_of Try.func62 (by kernel_rfl) rfl
theorem ent_63 : Enters Try.prog 63 := enters_of Try.func63 (by kernel_rfl) rfl
theorem ent_64 : Enters Try.prog 64 := enters_of Try.func64 (by kernel_rfl) rfl
theorem ent_65 : Enters Try.prog 65 := enters_of Try.func65 (by kernel_rfl) rfl
theorem ent_81 : Enters Try.prog 81 := enters_of Try.func81 (by kernel_rfl) rfl
theorem ent_9 : Enters Try.prog 9 := enters_of Try.func9 (by kernel_rfl) rfl
theorem field1_64_0 : field1B Try.prog 64 0 = some 0 := by kernel_rfl
theorem field1_64_1 : field1B Try.prog 64 1 = some 1 := by kernel_rfl
theorem pair_23 : pairB Try.prog 23 = true := by kernel_rfl
theorem sl_90 : slB Try.prog 90 = some (92, 1) := by kernel_rfl
theorem ty_4 : tyB Try.prog 4 = some (false, 1) := by kernel_rfl
theorem ty_65 : tyB Try.prog 65 = some (false, 1) := by kernel_rfl
theorem ty_83 : tyB Try.prog 83 = some (false, 1) := by kernel_rfl
theorem ty_92 : tyB Try.prog 92 = some (false, 1) := by kernel_rfl
theorem und_82 : Try.prog.underlying 82 = some (.int .u64) := by kernel_rfl
theorem zero_4 : zeroB Try.prog 4 = some [.bool false] := by kernel_rfl
theorem zero_65 : zeroB Try.prog 65 = some [.pointer none] := by kernel_rfl
theorem zero_83 : zeroB Try.prog 83 = some [.nilFunc] := by kernel_rfl
theorem zero_92 : zeroB Try.prog 92 = some [.nilIface] := by kernel_rfl
end Go.Proofs.Ytjijeeadmhpfcaa
