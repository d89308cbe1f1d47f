/- The facts on the tables of types and on the entries of functions that the walks use. Written by program. -/
import Derived.Test.YthppnhjggdebbaaTypes
import Derived.Test.YthppnhjggdebbaaOwn
set_option linter.unusedSimpArgs false
set_option linter.unusedVariables false
namespace Go.Proofs.Ythppnhjggdebbaa
open Go Go.Eng
theorem ap_24 : apB Try.prog 24 = some (47, 9, 72) := by kernel_rfl
theorem ap_43 : apB Try.prog 43 = some (3, 1, 8) := by kernel_rfl
theorem boolB_4 : boolB Try.prog 4 = true := by kernel_rfl
theorem ent_12 : Enters Try.prog 12 := enters_of Try.func12 (by kernel_rfl) rfl
theorem ent_13 : Enters Try.prog 13 := enters_of Try.func13 (by kernel_rfl) rfl
theorem ent_14 : Enters Try.prog 14 := enters_of Try.func14 (by kernel_rfl) rfl
theorem ent_15 : Enters Try.prog 15 := enters_of Try.func15 (by kernel_rfl) rfl
theorem ent_16 : Enters Try.prog 16 := enters_of Try.func16 (by kernel_rfl) rfl
theorem ent_17 : Enters Try.prog 17 := enters_of Try.func17 (by kernel_rfl) rfl
theorem ent_18 : Enters Try.prog 18 := enters_of Try.func18 (by kernel_rfl) rfl
theorem ent_19 : Enters Try.prog 19 := enters_of Try.func19 (by kernel_rfl) rfl
theorem ent_20 : Enters Try.prog 20 := enters_of Try.func20 (by kernel_rfl) rfl
theorem ent_21 : Enters Try.prog 21 := enters_of Try.func21 (by kernel_rfl) rfl
theorem ent_22 : Enters Try.prog 22 := enters_of Try.func22 (by kernel_rfl) rfl
theorem ent_23 : Enters Try.prog 23 := enters_of Try.func23 (by kernel_rfl) rfl
theorem ent_24 : Enters Try.prog 24 := enters_of Try.func24 (by kernel_rfl) rfl
theorem ent_25 : Enters Try.prog 25 := enters_of Try.func25 (by kernel_rfl) rfl
theorem ent_26 : Enters Try.prog 26 := enters_of Try.func26 (by kernel_rfl) rfl
theorem ent_27 : Enters Try.prog 27 := enters_of Try.func27 (by kernel_rfl) rfl
theorem ent_28 : Enters Try.prog 28 := enters_of Try.func28 (by kernel_rfl) rfl
theorem ent_29 : Enters Try.prog 29 := enters_of Try.func29 (by kernel_rfl) rfl
theorem ent_30 : Enters Try.prog 30 := enters_of Try.func30 (by kernel_rfl) rfl
theorem ent_33 : Enters Try.prog 33 := enters_of Try.func33 (by kernel_rfl) rfl
theorem ent_34 : Enters Try.prog 34 := enters_of Try.func34 (by kernel_rfl) rfl
theorem ent_35 : Enters Try.prog 35 := enters_of Try.func35 (by kernel_rfl) rfl
theorem ent_36 : Enters Try.prog 36 := enters_of Try.func36 (by kernel_rfl) rfl
theorem ent_37 : Enters Try.prog 37 := enters_of Try.func37 (by kernel_rfl) rfl
theorem ent_38 : Enters Try.prog 38 := enters_of Try.func38 (by kernel_rfl) rfl
theorem ent_39 : Enters Try.prog 39 := enters_of Try.func39 (by kernel_rfl) rfl
theorem ent_40 : Enters Try.prog 40 := enters_of Try.func40 (by kernel_rfl) rfl
theorem ent_72 : Enters Try.prog 72 := enters_of Try.func72 (by kernel_rfl) rfl
theorem ent_75 : Enters Try.prog 75 := enters_of Try.func75 (by kernel_rfl) rfl
theorem pair_23 : pairB Try.prog 23 = true := by kernel_rfl
theorem places_26 : placesB Try.prog 26 = some [(0, 2), (2, 2), (4, 1), (5, 1), (6, 1), (7, 1)] := by kernel_rfl
theorem places_45 : placesB Try.prog 45 = some [(0, 2), (2, 2)] := by kernel_rfl
theorem places_47 : placesB Try.prog 47 = some [(0, 4), (4, 4), (8, 1)] := by kernel_rfl
theorem sl_39 : slB Try.prog 39 = some (55, 1) := by kernel_rfl
theorem sl_64 : slB Try.prog 64 = some (26, 8) := by kernel_rfl
theorem ty_39 : tyB Try.prog 39 = some (false, 1) := by kernel_rfl
theorem ty_40 : tyB Try.prog 40 = some (false, 1) := by kernel_rfl
theorem ty_55 : tyB Try.prog 55 = some (false, 1) := by kernel_rfl
theorem ty_62 : tyB Try.prog 62 = some (false, 1) := by kernel_rfl
theorem und_5 : Try.prog.underlying 5 = some (.int .u8) := by kernel_rfl
theorem und_50 : Try.prog.underlying 50 = some (.int .u32) := by kernel_rfl
theorem und_55 : Try.prog.underlying 55 = some (.int .u16) := by kernel_rfl
theorem und_62 : Try.prog.underlying 62 = some (.int .i16) := by kernel_rfl
theorem zero_26 : zeroB Try.prog 26 = some [.int .i64 0, .int .i64 0, .int .i64 0, .int .i64 0, .int .i64 0, .int .i64 0, .int .i64 0, .slice none 0 0] := by kernel_rfl
theorem zero_40 : zeroB Try.prog 40 = some [.nilFunc] := by kernel_rfl
theorem zero_45 : zeroB Try.prog 45 = some [.int .i64 0, .int .i64 0, .int .i64 0, .int .i64 0] := by kernel_rfl
end Go.Proofs.Ythppnhjggdebbaa
