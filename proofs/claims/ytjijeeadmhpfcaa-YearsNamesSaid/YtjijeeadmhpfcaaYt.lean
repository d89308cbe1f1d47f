/- The facts on the tables of types and on the entries of functions that the walks use. Written by program. -/
import Derived.Test.YtjijeeadmhpfcaaTypes
import Derived.Test.YtjijeeadmhpfcaaMore5
set_option linter.unusedSimpArgs false
set_option linter.unusedVariables false
namespace Go.Proofs.Ytjijeeadmhpfcaa
open Go Go.Eng
theorem ap_119 : apB Try.prog 119 = some (3, 1, 8) := by kernel_rfl
theorem arr1_111 : arr1B Try.prog 111 = some 2 := by kernel_rfl
theorem arr1_113 : arr1B Try.prog 113 = some 2 := by kernel_rfl
theorem arr_111 : arrB Try.prog 111 = some (2, 1) := by kernel_rfl
theorem arr_72 : arrB Try.prog 72 = some (2, 2) := by kernel_rfl
theorem ent_125 : Enters Try.prog 125 := enters_of Try.func125 (by kernel_rfl) rfl
theorem ent_126 : Enters Try.prog 126 := enters_of Try.func126 (by kernel_rfl) rfl
theorem ent_22 : Enters Try.prog 22 := enters_of Try.func22 (by kernel_rfl) rfl
theorem ent_23 : Enters Try.prog 23 := enters_of Try.func23 (by kernel_rfl) rfl
theorem ent_27 : Enters Try.prog 27 := enters_of Try.func27 (by kernel_rfl) rfl
theorem ent_29 : Enters Try.prog 29 := enters_of Try.func29 (by kernel_rfl) rfl
theorem ent_33 : Enters Try.prog 33 := enters_of Try.func33 (by kernel_rfl) rfl
theorem ent_35 : Enters Try.prog 35 := enters_of Try.func35 (by kernel_rfl) rfl
theorem ent_36 : Enters Try.prog 36 := enters_of Try.func36 (by kernel_rfl) rfl
theorem ent_37 : Enters Try.prog 37 := enters_of Try.func37 (by kernel_rfl) rfl
theorem ent_40 : Enters Try.prog 40 := enters_of Try.func40 (by kernel_rfl) rfl
theorem ent_41 : Enters Try.prog 41 := enters_of Try.func41 (by kernel_rfl) rfl
theorem ent_42 : Enters Try.prog 42 := enters_of Try.func42 (by kernel_rfl) rfl
theorem ent_43 : Enters Try.prog 43 := enters_of Try.func43 (by kernel_rfl) rfl
theorem ent_45 : Enters Try.prog 45 := enters_of Try.func45 (by kernel_rfl) rfl
theorem ent_46 : Enters Try.prog 46 := enters_of Try.func46 (by kernel_rfl) rfl
theorem ent_47 : Enters Try.prog 47 := enters_of Try.func47 (by kernel_rfl) rfl
theorem ent_48 : Enters Try.prog 48 := enters_of Try.func48 (by kernel_rfl) rfl
theorem ent_49 : Enters Try.prog 49 := enters_of Try.func49 (by kernel_rfl) rfl
theorem ent_51 : Enters Try.prog 51 := enters_of Try.func51 (by kernel_rfl) rfl
theorem ent_53 : Enters Try.prog 53 := enters_of Try.func53 (by kernel_rfl) rfl
theorem ent_57 : Enters Try.prog 57 := enters_of Try.func57 (by kernel_rfl) rfl
theorem ent_58 : Enters Try.prog 58 := enters_of Try.func58 (by kernel_rfl) rfl
theorem ent_59 : Enters Try.prog 59 := enters_of Try.func59 (by kernel_rfl) rfl
theorem ent_61 : Enters Try.prog 61 := enters_of Try.func61 (by kernel_rfl) rfl
theorem ent_73 : Enters Try.prog 73 := enters_of Try.func73 (by kernel_rfl) rfl
theorem ent_74 : Enters Try.prog 74 := enters_of Try.func74 (by kernel_rfl) rfl
theorem ent_75 : Enters Try.prog 75 := enters_of Try.func75 (by kernel_rfl) rfl
theorem ent_76 : Enters Try.prog 76 := enters_of Try.func76 (by kernel_rfl) rfl
theorem ent_77 : Enters Try.prog 77 := enters_of Try.func77 (by kernel_rfl) rfl
theorem ent_78 : Enters Try.prog 78 := enters_of Try.func78 (by kernel_rfl) rfl
theorem ent_90 : Enters Try.prog 90 := enters_of Try.func90 (by kernel_rfl) rfl
theorem ent_91 : Enters Try.prog 91 := enters_of Try.func91 (by kernel_rfl) rfl
theorem ent_92 : Enters Try.prog 92 := enters_of Try.func92 (by kernel_rfl) rfl
theorem ent_93 : Enters Try.prog 93 := enters_of Try.func93 (by kernel_rfl) rfl
theorem fld_107_0 : fieldB Try.prog 107 0 = some 0 := by kernel_rfl
theorem fld_110_0 : fieldB Try.prog 110 0 = some 0 := by kernel_rfl
theorem fld_28_0 : fieldB Try.prog 28 0 = some 0 := by kernel_rfl
theorem fld_28_1 : fieldB Try.prog 28 1 = some 8 := by kernel_rfl
theorem fld_28_2 : fieldB Try.prog 28 2 = some 16 := by kernel_rfl
theorem fld_28_3 : fieldB Try.prog 28 3 = some 17 := by kernel_rfl
theorem fld_64_0 : fieldB Try.prog 64 0 = some 0 := by kernel_rfl
theorem fld_64_1 : fieldB Try.prog 64 1 = some 1 := by kernel_rfl
theorem meth_69_pairworks_years_answer (v : Value) (w : World) : (method (Try.prog.types.size + Made.depth) 69 v "pairworks/years.answer").run Try.prog w = .ok (125, v) w := by kernel_rfl
theorem meth_78_pairworks_years_answer (v : Value) (w : World) : (method (Try.prog.types.size + Made.depth) 78 v "pairworks/years.answer").run Try.prog w = .ok (126, v) w := by kernel_rfl
theorem noif_107 : (Try.prog.underlying 107).any (fun t => match t with | .interface _ => false | _ => true) = true := by kernel_rfl
theorem noif_69 : (Try.prog.underlying 69).any (fun t => match t with | .interface _ => false | _ => true) = true := by kernel_rfl
theorem noif_78 : (Try.prog.underlying 78).any (fun t => match t with | .interface _ => false | _ => true) = true := by kernel_rfl
theorem places_107 : placesB Try.prog 107 = some [(0, 1)] := by kernel_rfl
theorem places_110 : placesB Try.prog 110 = some [(0, 18)] := by kernel_rfl
theorem places_113 : placesB Try.prog 113 = some [(0, 1), (1, 1)] := by kernel_rfl
theorem places_26 : placesB Try.prog 26 = some [(0, 2), (2, 2), (4, 1), (5, 1), (6, 1), (7, 1)] := by kernel_rfl
theorem places_28 : placesB Try.prog 28 = some [(0, 8), (8, 8), (16, 1), (17, 1)] := by kernel_rfl
theorem places_52 : placesB Try.prog 52 = some [(0, 2), (2, 2)] := by kernel_rfl
theorem places_54 : placesB Try.prog 54 = some [(0, 4), (4, 4), (8, 1)] := by kernel_rfl
theorem places_64 : placesB Try.prog 64 = some [(0, 1), (1, 1)] := by kernel_rfl
theorem places_69 : placesB Try.prog 69 = some [] := by kernel_rfl
theorem places_78 : placesB Try.prog 78 = some [] := by kernel_rfl
theorem ty_107 : tyB Try.prog 107 = some (true, 1) := by kernel_rfl
theorem ty_111 : tyB Try.prog 111 = some (true, 2) := by kernel_rfl
theorem ty_113 : tyB Try.prog 113 = some (true, 2) := by kernel_rfl
theorem ty_28 : tyB Try.prog 28 = some (true, 18) := by kernel_rfl
theorem ty_64 : tyB Try.prog 64 = some (true, 2) := by kernel_rfl
theorem ty_72 : tyB Try.prog 72 = some (true, 4) := by kernel_rfl
theorem zero_107 : zeroB Try.prog 107 = some [.int .i64 0] := by kernel_rfl
theorem zero_110 : zeroB Try.prog 110 = some [.int .i64 0, .int .i64 0, .int .i64 0, .int .i64 0, .int .i64 0, .int .i64 0, .int .i64 0, .slice none 0 0, .int .i64 0, .int .i64 0, .int .i64 0, .int .i64 0, .int .i64 0, .int .i64 0, .int .i64 0, .slice none 0 0, .int .i64 0, .int .i64 0] := by kernel_rfl
theorem zero_111 : zeroB Try.prog 111 = some [.int .i64 0, .int .i64 0] := by kernel_rfl
theorem zero_113 : zeroB Try.prog 113 = some [.nilFunc, .nilFunc] := by kernel_rfl
theorem zero_26 : zeroB Try.prog 26 = some [.int .i64 0, .int .i64 0, .int .i64 0, .int .i64 0, .int .i64 0, .int .i64 0, .int .i64 0, .slice none 0 0] := by kernel_rfl
theorem zero_28 : zeroB Try.prog 28 = some [.int .i64 0, .int .i64 0, .int .i64 0, .int .i64 0, .int .i64 0, .int .i64 0, .int .i64 0, .slice none 0 0, .int .i64 0, .int .i64 0, .int .i64 0, .int .i64 0, .int .i64 0, .int .i64 0, .int .i64 0, .slice none 0 0, .int .i64 0, .int .i64 0] := by kernel_rfl
theorem zero_52 : zeroB Try.prog 52 = some [.int .i64 0, .int .i64 0, .int .i64 0, .int .i64 0] := by kernel_rfl
theorem zero_64 : zeroB Try.prog 64 = some [.int .i64 0, .int .i64 0] := by kernel_rfl
theorem zero_69 : zeroB Try.prog 69 = some [] := by kernel_rfl
theorem zero_72 : zeroB Try.prog 72 = some [.int .i64 0, .int .i64 0, .int .i64 0, .int .i64 0] := by kernel_rfl
theorem zero_78 : zeroB Try.prog 78 = some [] := by kernel_rfl
end Go.Proofs.Ytjijeeadmhpfcaa
