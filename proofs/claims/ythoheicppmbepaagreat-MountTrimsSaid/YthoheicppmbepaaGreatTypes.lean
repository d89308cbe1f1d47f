/- The facts on the tables of types and on the entries of functions that the walks use. Written by program. -/
import Derived.Test.YthoheicppmbepaaGreatProg
import Derived.Test.YthoheicppmbepaaGreatEngA
set_option linter.unusedSimpArgs false
set_option linter.unusedVariables false
namespace Go.Proofs.YthoheicppmbepaaGreat
open Go Go.Eng
theorem arr_111 : arrB Tryz.prog 111 = some (2, 1) := by kernel_rfl
theorem ent_100 : Enters Tryz.prog 100 := enters_of Tryz.func100 (by kernel_rfl) rfl
theorem ent_101 : Enters Tryz.prog 101 := enters_of Tryz.func101 (by kernel_rfl) rfl
theorem ent_102 : Enters Tryz.prog 102 := enters_of Tryz.func102 (by kernel_rfl) rfl
theorem ent_103 : Enters Tryz.prog 103 := enters_of Tryz.func103 (by kernel_rfl) rfl
theorem ent_104 : Enters Tryz.prog 104 := enters_of Tryz.func104 (by kernel_rfl) rfl
theorem ent_105 : Enters Tryz.prog 105 := enters_of Tryz.func105 (by kernel_rfl) rfl
theorem ent_106 : Enters Tryz.prog 106 := enters_of Tryz.func106 (by kernel_rfl) rfl
theorem ent_107 : Enters Tryz.prog 107 := enters_of Tryz.func107 (by kernel_rfl) rfl
theorem ent_108 : Enters Tryz.prog 108 := enters_of Tryz.func108 (by kernel_rfl) rfl
theorem ent_109 : Enters Tryz.prog 109 := enters_of Tryz.func109 (by kernel_rfl) rfl
theorem ent_111 : Enters Tryz.prog 111 := enters_of Tryz.func111 (by kernel_rfl) rfl
theorem ent_133 : Enters Tryz.prog 133 := enters_of Tryz.func133 (by kernel_rfl) rfl
theorem ent_134 : Enters Tryz.prog 134 := enters_of Tryz.func134 (by kernel_rfl) rfl
theorem ent_36 : Enters Tryz.prog 36 := enters_of Tryz.func36 (by kernel_rfl) rfl
theorem ent_48 : Enters Tryz.prog 48 := enters_of Tryz.func48 (by kernel_rfl) rfl
theorem ent_67 : Enters Tryz.prog 67 := enters_of Tryz.func67 (by kernel_rfl) rfl
theorem ent_68 : Enters Tryz.prog 68 := enters_of Tryz.func68 (by kernel_rfl) rfl
theorem ent_69 : Enters Tryz.prog 69 := enters_of Tryz.func69 (by kernel_rfl) rfl
theorem ent_70 : Enters Tryz.prog 70 := enters_of Tryz.func70 (by kernel_rfl) rfl
theorem ent_71 : Enters Tryz.prog 71 := enters_of Tryz.func71 (by kernel_rfl) rfl
theorem ent_72 : Enters Tryz.prog 72 := enters_of Tryz.func72 (by kernel_rfl) rfl
theorem ent_73 : Enters Tryz.prog 73 := enters_of Tryz.func73 (by kernel_rfl) rfl
theorem ent_74 : Enters Tryz.prog 74 := enters_of Tryz.func74 (by kernel_rfl) rfl
theorem ent_75 : Enters Tryz.prog 75 := enters_of Tryz.func75 (by kernel_rfl) rfl
theorem ent_82 : Enters Tryz.prog 82 := enters_of Tryz.func82 (by kernel_rfl) rfl
theorem ent_83 : Enters Tryz.prog 83 := enters_of Tryz.func83 (by kernel_rfl) rfl
theorem ent_84 : Enters Tryz.prog 84 := enters_of Tryz.func84 (by kernel_rfl) rfl
theorem ent_85 : Enters Tryz.prog 85 := enters_of Tryz.func85 (by kernel_rfl) rfl
theorem ent_86 : Enters Tryz.prog 86 := enters_of Tryz.func86 (by kernel_rfl) rfl
theorem ent_87 : Enters Tryz.prog 87 := enters_of Tryz.func87 (by kernel_rfl) rfl
theorem ent_88 : Enters Tryz.prog 88 := enters_of Tryz.func88 (by kernel_rfl) rfl
theorem ent_89 : Enters Tryz.prog 89 := enters_of Tryz.func89 (by kernel_rfl) rfl
theorem ent_90 : Enters Tryz.prog 90 := enters_of Tryz.func90 (by kernel_rfl) rfl
theorem ent_91 : Enters Tryz.prog 91 := enters_of Tryz.func91 (by kernel_rfl) rfl
theorem ent_92 : Enters Tryz.prog 92 := enters_of Tryz.func92 (by kernel_rfl) rfl
theorem ent_93 : Enters Tryz.prog 93 := enters_of Tryz.func93 (by kernel_rfl) rfl
theorem ent_94 : Enters Tryz.prog 94 := enters_of Tryz.func94 (by kernel_rfl) rfl
theorem ent_95 : Enters Tryz.prog 95 := enters_of Tryz.func95 (by kernel_rfl) rfl
theorem ent_96 : Enters Tryz.prog 96 := enters_of Tryz.func96 (by kernel_rfl) rfl
theorem ent_97 : Enters Tryz.prog 97 := enters_of Tryz.func97 (by kernel_rfl) rfl
theorem field1_23_0 : field1B Tryz.prog 23 0 = some 0 := by kernel_rfl
theorem field1_23_1 : field1B Tryz.prog 23 1 = some 1 := by kernel_rfl
theorem fld_113_0 : fieldB Tryz.prog 113 0 = some 0 := by kernel_rfl
theorem fld_113_1 : fieldB Tryz.prog 113 1 = some 8 := by kernel_rfl
theorem fld_149_0 : fieldB Tryz.prog 149 0 = some 0 := by kernel_rfl
theorem fld_166_0 : fieldB Tryz.prog 166 0 = some 0 := by kernel_rfl
theorem fld_168_0 : fieldB Tryz.prog 168 0 = some 0 := by kernel_rfl
theorem fld_168_1 : fieldB Tryz.prog 168 1 = some 1 := by kernel_rfl
theorem fld_23_0 : fieldB Tryz.prog 23 0 = some 0 := by kernel_rfl
theorem fld_23_1 : fieldB Tryz.prog 23 1 = some 1 := by kernel_rfl
theorem fld_26_0 : fieldB Tryz.prog 26 0 = some 0 := by kernel_rfl
theorem fld_26_1 : fieldB Tryz.prog 26 1 = some 2 := by kernel_rfl
theorem fld_26_2 : fieldB Tryz.prog 26 2 = some 4 := by kernel_rfl
theorem fld_26_3 : fieldB Tryz.prog 26 3 = some 5 := by kernel_rfl
theorem fld_26_4 : fieldB Tryz.prog 26 4 = some 6 := by kernel_rfl
theorem fld_26_5 : fieldB Tryz.prog 26 5 = some 7 := by kernel_rfl
theorem fld_74_0 : fieldB Tryz.prog 74 0 = some 0 := by kernel_rfl
theorem fld_74_1 : fieldB Tryz.prog 74 1 = some 2 := by kernel_rfl
theorem fld_76_0 : fieldB Tryz.prog 76 0 = some 0 := by kernel_rfl
theorem fld_76_1 : fieldB Tryz.prog 76 1 = some 4 := by kernel_rfl
theorem fld_76_2 : fieldB Tryz.prog 76 2 = some 8 := by kernel_rfl
theorem fol_ : Tryz.prog.follows .mixedOrders = true := by kernel_rfl
theorem meth_166_pairworks_pair_powers (v : Value) (w : World) : (method (Tryz.prog.types.size + Made.depth) 166 v "pairworks/pair.powers").run Tryz.prog w = .ok (133, v) w := by kernel_rfl
theorem meth_168_pairworks_pair_powers (v : Value) (w : World) : (method (Tryz.prog.types.size + Made.depth) 168 v "pairworks/pair.powers").run Tryz.prog w = .ok (134, v) w := by kernel_rfl
theorem noif_149 : (Tryz.prog.underlying 149).any (fun t => match t with | .interface _ => false | _ => true) = true := by kernel_rfl
theorem noif_166 : (Tryz.prog.underlying 166).any (fun t => match t with | .interface _ => false | _ => true) = true := by kernel_rfl
theorem noif_168 : (Tryz.prog.underlying 168).any (fun t => match t with | .interface _ => false | _ => true) = true := by kernel_rfl
theorem places_111 : placesB Tryz.prog 111 = some [(0, 1), (1, 1)] := by kernel_rfl
theorem places_113 : placesB Tryz.prog 113 = some [(0, 8), (8, 2)] := by kernel_rfl
theorem places_149 : placesB Tryz.prog 149 = some [(0, 1)] := by kernel_rfl
theorem places_166 : placesB Tryz.prog 166 = some [(0, 1)] := by kernel_rfl
theorem places_168 : placesB Tryz.prog 168 = some [(0, 1), (1, 1)] := by kernel_rfl
theorem places_23 : placesB Tryz.prog 23 = some [(0, 1), (1, 1)] := by kernel_rfl
theorem sl_129 : slB Tryz.prog 129 = some (131, 1) := by kernel_rfl
theorem sl_164 : slB Tryz.prog 164 = some (111, 2) := by kernel_rfl
theorem sl_24 : slB Tryz.prog 24 = some (76, 9) := by kernel_rfl
theorem sl_55 : slB Tryz.prog 55 = some (3, 1) := by kernel_rfl
theorem ty_108 : tyB Tryz.prog 108 = some (false, 1) := by kernel_rfl
theorem ty_111 : tyB Tryz.prog 111 = some (true, 2) := by kernel_rfl
theorem ty_115 : tyB Tryz.prog 115 = some (false, 1) := by kernel_rfl
theorem ty_131 : tyB Tryz.prog 131 = some (false, 1) := by kernel_rfl
theorem ty_149 : tyB Tryz.prog 149 = some (true, 1) := by kernel_rfl
theorem ty_23 : tyB Tryz.prog 23 = some (true, 2) := by kernel_rfl
theorem ty_24 : tyB Tryz.prog 24 = some (false, 1) := by kernel_rfl
theorem ty_26 : tyB Tryz.prog 26 = some (true, 8) := by kernel_rfl
theorem ty_3 : tyB Tryz.prog 3 = some (false, 1) := by kernel_rfl
theorem ty_32 : tyB Tryz.prog 32 = some (false, 1) := by kernel_rfl
theorem ty_74 : tyB Tryz.prog 74 = some (true, 4) := by kernel_rfl
theorem ty_76 : tyB Tryz.prog 76 = some (true, 9) := by kernel_rfl
theorem und_20 : Tryz.prog.underlying 20 = some (.interface #[]) := by kernel_rfl
theorem zero_108 : zeroB Tryz.prog 108 = some [.pointer none] := by kernel_rfl
theorem zero_111 : zeroB Tryz.prog 111 = some [.int .i64 0, .int .i64 0] := by kernel_rfl
theorem zero_113 : zeroB Tryz.prog 113 = some [.int .i64 0, .int .i64 0, .int .i64 0, .int .i64 0, .int .i64 0, .int .i64 0, .int .i64 0, .slice none 0 0, .int .i64 0, .int .i64 0] := by kernel_rfl
theorem zero_115 : zeroB Tryz.prog 115 = some [.nilFunc] := by kernel_rfl
theorem zero_131 : zeroB Tryz.prog 131 = some [.nilFunc] := by kernel_rfl
theorem zero_149 : zeroB Tryz.prog 149 = some [.int .i64 0] := by kernel_rfl
theorem zero_166 : zeroB Tryz.prog 166 = some [.int .i64 0] := by kernel_rfl
theorem zero_168 : zeroB Tryz.prog 168 = some [.int .i64 0, .int .i64 0] := by kernel_rfl
theorem zero_23 : zeroB Tryz.prog 23 = some [.int .i64 0, .int .i64 0] := by kernel_rfl
theorem zero_3 : zeroB Tryz.prog 3 = some [.int .i64 0] := by kernel_rfl
theorem zero_32 : zeroB Tryz.prog 32 = some [.int .i64 0] := by kernel_rfl
theorem zero_76 : zeroB Tryz.prog 76 = some [.int .i64 0, .int .i64 0, .int .i64 0, .int .i64 0, .int .i64 0, .int .i64 0, .int .i64 0, .int .i64 0, .int .i64 0] := by kernel_rfl
end Go.Proofs.YthoheicppmbepaaGreat
