/- The facts on the tables of types and on the entries of functions that the walks use. Written by program. -/
import Derived.Test.YthppnhjggdebbaaTypes
import Derived.Test.YthppnhjggdebbaaMore
set_option linter.unusedSimpArgs false
set_option linter.unusedVariables false
namespace Go.Proofs.Ythppnhjggdebbaa
open Go Go.Eng
theorem ent_12 : Enters Try.prog 12 := enters_of Try.func12 (by kernel_rfl) rfl
theorem ent_13 : Enters Try.prog 13 := enters_of Try.func13 (by kernel_rfl) rfl
theorem ent_14 : Enters Try.prog 14 := enters_of Try.func14 (by kernel_rfl) rfl
theorem ent_15 : Enters Try.prog 15 := enters_of Try.func15 (by kernel_rfl) rfl
theorem ent_16 : Enters Try.prog 16 := enters_of Try.func16 (by kernel_rfl) rfl
theorem ent_17 : Enters Try.prog 17 := enters_of Try.func17 (by kernel_rfl) rfl
theorem ent_18 : Enters Try.prog 18 := enters_of Try.func18 (by kernel_rfl) rfl
theorem ent_19 : Enters Try.prog 19 := enters_of Try.func19 (by kernel_rfl) rfl
theorem ent_20 : Enters Try.prog 20 := enters_of Try.func20 (by kernel_rfl) rfl
theorem ent_21 : Enters Try.prog 21 := enters_of Try.func21 (by kernel_rfl) rfl
theorem ent_22 : Enters Try.prog 22 := enters_of Try.func22 (by kernel_rfl) rfl
theorem ent_23 : Enters Try.prog 23 := enters_of Try.func23 (by kernel_rfl) rfl
theorem ent_24 : Enters Try.prog 24 := enters_of Try.func24 (by kernel_rfl) rfl
theorem ent_25 : Enters Try.prog 25 := enters_of Try.func25 (by kernel_rfl) rfl
theorem ent_26 : Enters Try.prog 26 := enters_of Try.func26 (by kernel_rfl) rfl
theorem ent_28 : Enters Try.prog 28 := enters_of Try.func28 (by kernel_rfl) rfl
theorem ent_40 : Enters Try.prog 40 := enters_of Try.func40 (by kernel_rfl) rfl
theorem ent_75 : Enters Try.prog 75 := enters_of Try.func75 (by kernel_rfl) rfl
theorem pair_23 : pairB Try.prog 23 = true := by kernel_rfl
theorem places_26 : placesB Try.prog 26 = some [(0, 2), (2, 2), (4, 1), (5, 1), (6, 1), (7, 1)] := by kernel_rfl
theorem places_45 : placesB Try.prog 45 = some [(0, 2), (2, 2)] := by kernel_rfl
theorem places_47 : placesB Try.prog 47 = some [(0, 4), (4, 4), (8, 1)] := by kernel_rfl
theorem zero_26 : zeroB Try.prog 26 = some [.int .i64 0, .int .i64 0, .int .i64 0, .int .i64 0, .int .i64 0, .int .i64 0, .int .i64 0, .slice none 0 0] := by kernel_rfl
theorem zero_45 : zeroB Try.prog 45 = some [.int .i64 0, .int .i64 0, .int .i64 0, .int .i64 0] := by kernel_rfl
end Go.Proofs.Ythppnhjggdebbaa
