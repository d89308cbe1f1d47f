/- The facts on the tables of types and on the entries of functions that the walks use. Written by program. -/
import Derived.Test.YthppnhjggdebbaaProg
import Derived.Test.YthppnhjggdebbaaMore
set_option linter.unusedSimpArgs false
set_option linter.unusedVariables false
namespace Go.Proofs.Ythppnhjggdebbaa
open Go Go.Eng
theorem arr_70 : arrB Try.prog 70 = some (2, 1) := by kernel_rfl
theorem ent_107 : Enters Try.prog 107 := enters_of Try.func107 (by kernel_rfl) rfl
theorem ent_108 : Enters Try.prog 108 := enters_of Try.func108 (by kernel_rfl) rfl
theorem ent_31 : Enters Try.prog 31 := enters_of Try.func31 (by kernel_rfl) rfl
theorem ent_32 : Enters Try.prog 32 := enters_of Try.func32 (by kernel_rfl) rfl
theorem ent_41 : Enters Try.prog 41 := enters_of Try.func41 (by kernel_rfl) rfl
theorem ent_42 : Enters Try.prog 42 := enters_of Try.func42 (by kernel_rfl) rfl
theorem ent_43 : Enters Try.prog 43 := enters_of Try.func43 (by kernel_rfl) rfl
theorem ent_44 : Enters Try.prog 44 := enters_of Try.func44 (by kernel_rfl) rfl
theorem ent_45 : Enters Try.prog 45 := enters_of Try.func45 (by kernel_rfl) rfl
theorem ent_46 : Enters Try.prog 46 := enters_of Try.func46 (by kernel_rfl) rfl
theorem ent_47 : Enters Try.prog 47 := enters_of Try.func47 (by kernel_rfl) rfl
theorem ent_48 : Enters Try.prog 48 := enters_of Try.func48 (by kernel_rfl) rfl
theorem ent_49 : Enters Try.prog 49 := enters_of Try.func49 (by kernel_rfl) rfl
theorem ent_50 : Enters Try.prog 50 := enters_of Try.func50 (by kernel_rfl) rfl
theorem ent_51 : Enters Try.prog 51 := enters_of Try.func51 (by kernel_rfl) rfl
theorem ent_52 : Enters Try.prog 52 := enters_of Try.func52 (by kernel_rfl) rfl
theorem ent_53 : Enters Try.prog 53 := enters_of Try.func53 (by kernel_rfl) rfl
theorem ent_54 : Enters Try.prog 54 := enters_of Try.func54 (by kernel_rfl) rfl
theorem ent_55 : Enters Try.prog 55 := enters_of Try.func55 (by kernel_rfl) rfl
theorem ent_56 : Enters Try.prog 56 := enters_of Try.func56 (by kernel_rfl) rfl
theorem ent_57 : Enters Try.prog 57 := enters_of Try.func57 (by kernel_rfl) rfl
theorem ent_58 : Enters Try.prog 58 := enters_of Try.func58 (by kernel_rfl) rfl
theorem ent_59 : Enters Try.prog 59 := enters_of Try.func59 (by kernel_rfl) rfl
theorem ent_60 : Enters Try.prog 60 := enters_of Try.func60 (by kernel_rfl) rfl
theorem ent_61 : Enters Try.prog 61 := enters_of Try.func61 (by kernel_rfl) rfl
theorem ent_62 : Enters Try.prog 62 := enters_of Try.func62 (by kernel_rfl) rfl
theorem ent_63 : Enters Try.prog 63 := enters_of Try.func63 (by kernel_rfl) rfl
theorem ent_64 : Enters Try.prog 64 := enters_of Try.func64 (by kernel_rfl) rfl
theorem ent_65 : Enters Try.prog 65 := enters_of Try.func65 (by kernel_rfl) rfl
theorem ent_66 : Enters Try.prog 66 := enters_of Try.func66 (by kernel_rfl) rfl
theorem ent_67 : Enters Try.prog 67 := enters_of Try.func67 (by kernel_rfl) rfl
theorem ent_68 : Enters Try.prog 68 := enters_of Try.func68 (by kernel_rfl) rfl
theorem ent_69 : Enters Try.prog 69 := enters_of Try.func69 (by kernel_rfl) rfl
theorem ent_70 : Enters Try.prog 70 := enters_of Try.func70 (by kernel_rfl) rfl
theorem ent_71 : Enters Try.prog 71 := enters_of Try.func71 (by kernel_rfl) rfl
theorem ent_73 : Enters Try.prog 73 := enters_of Try.func73 (by kernel_rfl) rfl
theorem ent_74 : Enters Try.prog 74 := enters_of Try.func74 (by kernel_rfl) rfl
theorem ent_76 : Enters Try.prog 76 := enters_of Try.func76 (by kernel_rfl) rfl
theorem ent_77 : Enters Try.prog 77 := enters_of Try.func77 (by kernel_rfl) rfl
theorem ent_78 : Enters Try.prog 78 := enters_of Try.func78 (by kernel_rfl) rfl
theorem ent_79 : Enters Try.prog 79 := enters_of Try.func79 (by kernel_rfl) rfl
theorem ent_80 : Enters Try.prog 80 := enters_of Try.func80 (by kernel_rfl) rfl
theorem ent_81 : Enters Try.prog 81 := enters_of Try.func81 (by kernel_rfl) rfl
theorem ent_82 : Enters Try.prog 82 := enters_of Try.func82 (by kernel_rfl) rfl
theorem ent_83 : Enters Try.prog 83 := enters_of Try.func83 (by kernel_rfl) rfl
theorem ent_84 : Enters Try.prog 84 := enters_of Try.func84 (by kernel_rfl) rfl
theorem ent_85 : Enters Try.prog 85 := enters_of Try.func85 (by kernel_rfl) rfl
theorem ent_86 : Enters Try.prog 86 := enters_of Try.func86 (by kernel_rfl) rfl
theorem ent_87 : Enters Try.prog 87 := enters_of Try.func87 (by kernel_rfl) rfl
theorem ent_88 : Enters Try.prog 88 := enters_of Try.func88 (by kernel_rfl) rfl
theorem ent_90 : Enters Try.prog 90 := enters_of Try.func90 (by kernel_rfl) rfl
theorem ent_91 : Enters Try.prog 91 := enters_of Try.func91 (by kernel_rfl) rfl
theorem field1_23_0 : field1B Try.prog 23 0 = some 0 := by kernel_rfl
theorem field1_23_1 : field1B Try.prog 23 1 = some 1 := by kernel_rfl
theorem fld_108_0 : fieldB Try.prog 108 0 = some 0 := by kernel_rfl
theorem fld_122_0 : fieldB Try.prog 122 0 = some 0 := by kernel_rfl
theorem fld_124_0 : fieldB Try.prog 124 0 = some 0 := by kernel_rfl
theorem fld_124_1 : fieldB Try.prog 124 1 = some 1 := by kernel_rfl
theorem fld_23_0 : fieldB Try.prog 23 0 = some 0 := by kernel_rfl
theorem fld_23_1 : fieldB Try.prog 23 1 = some 1 := by kernel_rfl
theorem fld_26_0 : fieldB Try.prog 26 0 = some 0 := by kernel_rfl
theorem fld_26_1 : fieldB Try.prog 26 1 = some 2 := by kernel_rfl
theorem fld_26_2 : fieldB Try.prog 26 2 = some 4 := by kernel_rfl
theorem fld_26_3 : fieldB Try.prog 26 3 = some 5 := by kernel_rfl
theorem fld_26_4 : fieldB Try.prog 26 4 = some 6 := by kernel_rfl
theorem fld_26_5 : fieldB Try.prog 26 5 = some 7 := by kernel_rfl
theorem fld_45_0 : fieldB Try.prog 45 0 = some 0 := by kernel_rfl
theorem fld_45_1 : fieldB Try.prog 45 1 = some 2 := by kernel_rfl
theorem fld_47_0 : fieldB Try.prog 47 0 = some 0 := by kernel_rfl
theorem fld_47_1 : fieldB Try.prog 47 1 = some 4 := by kernel_rfl
theorem fld_47_2 : fieldB Try.prog 47 2 = some 8 := by kernel_rfl
theorem fld_72_0 : fieldB Try.prog 72 0 = some 0 := by kernel_rfl
theorem fld_72_1 : fieldB Try.prog 72 1 = some 8 := by kernel_rfl
theorem fld_96_0 : fieldB Try.prog 96 0 = some 0 := by kernel_rfl
theorem fld_96_1 : fieldB Try.prog 96 1 = some 1 := by kernel_rfl
theorem fol_ : Try.prog.follows .mixedOrders = true := by kernel_rfl
theorem meth_122_pairworks_pair_powers (v : Value) (w : World) : (method (Try.prog.types.size + Made.depth) 122 v "pairworks/pair.powers").run Try.prog w = .ok (107, v) w := by kernel_rfl
theorem meth_124_pairworks_pair_powers (v : Value) (w : World) : (method (Try.prog.types.size + Made.depth) 124 v "pairworks/pair.powers").run Try.prog w = .ok (108, v) w := by kernel_rfl
theorem noif_108 : (Try.prog.underlying 108).any (fun t => match t with | .interface _ => false | _ => true) = true := by kernel_rfl
theorem noif_122 : (Try.prog.underlying 122).any (fun t => match t with | .interface _ => false | _ => true) = true := by kernel_rfl
theorem noif_124 : (Try.prog.underlying 124).any (fun t => match t with | .interface _ => false | _ => true) = true := by kernel_rfl
theorem pair_96 : pairB Try.prog 96 = true := by kernel_rfl
theorem places_108 : placesB Try.prog 108 = some [(0, 1)] := by kernel_rfl
theorem places_122 : placesB Try.prog 122 = some [(0, 1)] := by kernel_rfl
theorem places_124 : placesB Try.prog 124 = some [(0, 1), (1, 1)] := by kernel_rfl
theorem places_23 : placesB Try.prog 23 = some [(0, 1), (1, 1)] := by kernel_rfl
theorem places_70 : placesB Try.prog 70 = some [(0, 1), (1, 1)] := by kernel_rfl
theorem places_72 : placesB Try.prog 72 = some [(0, 8), (8, 2)] := by kernel_rfl
theorem places_96 : placesB Try.prog 96 = some [(0, 1), (1, 1)] := by kernel_rfl
theorem sl_116 : slB Try.prog 116 = some (70, 2) := by kernel_rfl
theorem sl_24 : slB Try.prog 24 = some (47, 9) := by kernel_rfl
theorem sl_43 : slB Try.prog 43 = some (3, 1) := by kernel_rfl
theorem sl_83 : slB Try.prog 83 = some (85, 1) := by kernel_rfl
theorem ty_104 : tyB Try.prog 104 = some (false, 1) := by kernel_rfl
theorem ty_108 : tyB Try.prog 108 = some (true, 1) := by kernel_rfl
theorem ty_23 : tyB Try.prog 23 = some (true, 2) := by kernel_rfl
theorem ty_24 : tyB Try.prog 24 = some (false, 1) := by kernel_rfl
theorem ty_26 : tyB Try.prog 26 = some (true, 8) := by kernel_rfl
theorem ty_28 : tyB Try.prog 28 = some (false, 1) := by kernel_rfl
theorem ty_3 : tyB Try.prog 3 = some (false, 1) := by kernel_rfl
theorem ty_45 : tyB Try.prog 45 = some (true, 4) := by kernel_rfl
theorem ty_47 : tyB Try.prog 47 = some (true, 9) := by kernel_rfl
theorem ty_70 : tyB Try.prog 70 = some (true, 2) := by kernel_rfl
theorem ty_73 : tyB Try.prog 73 = some (false, 1) := by kernel_rfl
theorem ty_85 : tyB Try.prog 85 = some (false, 1) := by kernel_rfl
theorem ty_94 : tyB Try.prog 94 = some (false, 1) := by kernel_rfl
theorem ty_96 : tyB Try.prog 96 = some (true, 2) := by kernel_rfl
theorem ty_99 : tyB Try.prog 99 = some (false, 1) := by kernel_rfl
theorem und_127 : Try.prog.underlying 127 = some (.int .u64) := by kernel_rfl
theorem und_20 : Try.prog.underlying 20 = some (.interface #[]) := by kernel_rfl
theorem und_3 : Try.prog.underlying 3 = some (.int .i64) := by kernel_rfl
theorem und_94 : Try.prog.underlying 94 = some (.int .u64) := by kernel_rfl
theorem zero_104 : zeroB Try.prog 104 = some [.nilFunc] := by kernel_rfl
theorem zero_108 : zeroB Try.prog 108 = some [.int .i64 0] := by kernel_rfl
theorem zero_122 : zeroB Try.prog 122 = some [.int .i64 0] := by kernel_rfl
theorem zero_124 : zeroB Try.prog 124 = some [.int .i64 0, .int .i64 0] := by kernel_rfl
theorem zero_23 : zeroB Try.prog 23 = some [.int .i64 0, .int .i64 0] := by kernel_rfl
theorem zero_28 : zeroB Try.prog 28 = some [.int .i64 0] := by kernel_rfl
theorem zero_3 : zeroB Try.prog 3 = some [.int .i64 0] := by kernel_rfl
theorem zero_47 : zeroB Try.prog 47 = some [.int .i64 0, .int .i64 0, .int .i64 0, .int .i64 0, .int .i64 0, .int .i64 0, .int .i64 0, .int .i64 0, .int .i64 0] := by kernel_rfl
theorem zero_70 : zeroB Try.prog 70 = some [.int .i64 0, .int .i64 0] := by kernel_rfl
theorem zero_72 : zeroB Try.prog 72 = some [.int .i64 0, .int .i64 0, .int .i64 0, .int .i64 0, .int .i64 0, .int .i64 0, .int .i64 0, .slice none 0 0, .int .i64 0, .int .i64 0] := by kernel_rfl
theorem zero_73 : zeroB Try.prog 73 = some [.pointer none] := by kernel_rfl
theorem zero_85 : zeroB Try.prog 85 = some [.nilFunc] := by kernel_rfl
theorem zero_96 : zeroB Try.prog 96 = some [.int .i64 0, .int .u64 0] := by kernel_rfl
theorem zero_99 : zeroB Try.prog 99 = some [.nilFunc] := by kernel_rfl
end Go.Proofs.Ythppnhjggdebbaa
