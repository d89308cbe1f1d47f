/- The facts on the tables of types and on the entries of functions that the walks use. Written by program. -/
import Derived.Test.YtjijeeadmhpfcaaProg
import Derived.Test.YtjijeeadmhpfcaaMore
set_option linter.unusedSimpArgs false
set_option linter.unusedVariables false
namespace Go.Proofs.Ytjijeeadmhpfcaa
open Go Go.Eng
theorem arr_98 : arrB Try.prog 98 = some (2, 1) := by kernel_rfl
theorem ent_100 : Enters Try.prog 100 := enters_of Try.func100 (by kernel_rfl) rfl
theorem ent_101 : Enters Try.prog 101 := enters_of Try.func101 (by kernel_rfl) rfl
theorem ent_102 : Enters Try.prog 102 := enters_of Try.func102 (by kernel_rfl) rfl
theorem ent_103 : Enters Try.prog 103 := enters_of Try.func103 (by kernel_rfl) rfl
theorem ent_104 : Enters Try.prog 104 := enters_of Try.func104 (by kernel_rfl) rfl
theorem ent_105 : Enters Try.prog 105 := enters_of Try.func105 (by kernel_rfl) rfl
theorem ent_106 : Enters Try.prog 106 := enters_of Try.func106 (by kernel_rfl) rfl
theorem ent_107 : Enters Try.prog 107 := enters_of Try.func107 (by kernel_rfl) rfl
theorem ent_108 : Enters Try.prog 108 := enters_of Try.func108 (by kernel_rfl) rfl
theorem ent_109 : Enters Try.prog 109 := enters_of Try.func109 (by kernel_rfl) rfl
theorem ent_127 : Enters Try.prog 127 := enters_of Try.func127 (by kernel_rfl) rfl
theorem ent_128 : Enters Try.prog 128 := enters_of Try.func128 (by kernel_rfl) rfl
theorem ent_60 : Enters Try.prog 60 := enters_of Try.func60 (by kernel_rfl) rfl
theorem ent_66 : Enters Try.prog 66 := enters_of Try.func66 (by kernel_rfl) rfl
theorem ent_67 : Enters Try.prog 67 := enters_of Try.func67 (by kernel_rfl) rfl
theorem ent_68 : Enters Try.prog 68 := enters_of Try.func68 (by kernel_rfl) rfl
theorem ent_69 : Enters Try.prog 69 := enters_of Try.func69 (by kernel_rfl) rfl
theorem ent_70 : Enters Try.prog 70 := enters_of Try.func70 (by kernel_rfl) rfl
theorem ent_71 : Enters Try.prog 71 := enters_of Try.func71 (by kernel_rfl) rfl
theorem ent_72 : Enters Try.prog 72 := enters_of Try.func72 (by kernel_rfl) rfl
theorem ent_80 : Enters Try.prog 80 := enters_of Try.func80 (by kernel_rfl) rfl
theorem ent_82 : Enters Try.prog 82 := enters_of Try.func82 (by kernel_rfl) rfl
theorem ent_83 : Enters Try.prog 83 := enters_of Try.func83 (by kernel_rfl) rfl
theorem ent_84 : Enters Try.prog 84 := enters_of Try.func84 (by kernel_rfl) rfl
theorem ent_85 : Enters Try.prog 85 := enters_of Try.func85 (by kernel_rfl) rfl
theorem ent_86 : Enters Try.prog 86 := enters_of Try.func86 (by kernel_rfl) rfl
theorem ent_87 : Enters Try.prog 87 := enters_of Try.func87 (by kernel_rfl) rfl
theorem ent_88 : Enters Try.prog 88 := enters_of Try.func88 (by kernel_rfl) rfl
theorem ent_89 : Enters Try.prog 89 := enters_of Try.func89 (by kernel_rfl) rfl
theorem ent_94 : Enters Try.prog 94 := enters_of Try.func94 (by kernel_rfl) rfl
theorem ent_95 : Enters Try.prog 95 := enters_of Try.func95 (by kernel_rfl) rfl
theorem ent_96 : Enters Try.prog 96 := enters_of Try.func96 (by kernel_rfl) rfl
theorem ent_97 : Enters Try.prog 97 := enters_of Try.func97 (by kernel_rfl) rfl
theorem ent_98 : Enters Try.prog 98 := enters_of Try.func98 (by kernel_rfl) rfl
theorem ent_99 : Enters Try.prog 99 := enters_of Try.func99 (by kernel_rfl) rfl
theorem fld_100_0 : fieldB Try.prog 100 0 = some 0 := by kernel_rfl
theorem fld_100_1 : fieldB Try.prog 100 1 = some 8 := by kernel_rfl
theorem fld_131_0 : fieldB Try.prog 131 0 = some 0 := by kernel_rfl
theorem fld_142_0 : fieldB Try.prog 142 0 = some 0 := by kernel_rfl
theorem fld_144_0 : fieldB Try.prog 144 0 = some 0 := by kernel_rfl
theorem fld_144_1 : fieldB Try.prog 144 1 = some 1 := by kernel_rfl
theorem fld_23_0 : fieldB Try.prog 23 0 = some 0 := by kernel_rfl
theorem fld_23_1 : fieldB Try.prog 23 1 = some 1 := by kernel_rfl
theorem fld_26_0 : fieldB Try.prog 26 0 = some 0 := by kernel_rfl
theorem fld_26_1 : fieldB Try.prog 26 1 = some 2 := by kernel_rfl
theorem fld_26_2 : fieldB Try.prog 26 2 = some 4 := by kernel_rfl
theorem fld_26_3 : fieldB Try.prog 26 3 = some 5 := by kernel_rfl
theorem fld_26_4 : fieldB Try.prog 26 4 = some 6 := by kernel_rfl
theorem fld_26_5 : fieldB Try.prog 26 5 = some 7 := by kernel_rfl
theorem fld_52_0 : fieldB Try.prog 52 0 = some 0 := by kernel_rfl
theorem fld_52_1 : fieldB Try.prog 52 1 = some 2 := by kernel_rfl
theorem fld_54_0 : fieldB Try.prog 54 0 = some 0 := by kernel_rfl
theorem fld_54_1 : fieldB Try.prog 54 1 = some 4 := by kernel_rfl
theorem fld_54_2 : fieldB Try.prog 54 2 = some 8 := by kernel_rfl
theorem fol_ : Try.prog.follows .mixedOrders = true := by kernel_rfl
theorem meth_142_pairworks_pair_powers (v : Value) (w : World) : (method (Try.prog.types.size + Made.depth) 142 v "pairworks/pair.powers").run Try.prog w = .ok (127, v) w := by kernel_rfl
theorem meth_144_pairworks_pair_powers (v : Value) (w : World) : (method (Try.prog.types.size + Made.depth) 144 v "pairworks/pair.powers").run Try.prog w = .ok (128, v) w := by kernel_rfl
theorem noif_131 : (Try.prog.underlying 131).any (fun t => match t with | .interface _ => false | _ => true) = true := by kernel_rfl
theorem noif_142 : (Try.prog.underlying 142).any (fun t => match t with | .interface _ => false | _ => true) = true := by kernel_rfl
theorem noif_144 : (Try.prog.underlying 144).any (fun t => match t with | .interface _ => false | _ => true) = true := by kernel_rfl
theorem places_100 : placesB Try.prog 100 = some [(0, 8), (8, 2)] := by kernel_rfl
theorem places_131 : placesB Try.prog 131 = some [(0, 1)] := by kernel_rfl
theorem places_142 : placesB Try.prog 142 = some [(0, 1)] := by kernel_rfl
theorem places_144 : placesB Try.prog 144 = some [(0, 1), (1, 1)] := by kernel_rfl
theorem places_23 : placesB Try.prog 23 = some [(0, 1), (1, 1)] := by kernel_rfl
theorem places_98 : placesB Try.prog 98 = some [(0, 1), (1, 1)] := by kernel_rfl
theorem sl_119 : slB Try.prog 119 = some (3, 1) := by kernel_rfl
theorem sl_139 : slB Try.prog 139 = some (98, 2) := by kernel_rfl
theorem sl_24 : slB Try.prog 24 = some (54, 9) := by kernel_rfl
theorem ty_128 : tyB Try.prog 128 = some (false, 1) := by kernel_rfl
theorem ty_131 : tyB Try.prog 131 = some (true, 1) := by kernel_rfl
theorem ty_23 : tyB Try.prog 23 = some (true, 2) := by kernel_rfl
theorem ty_24 : tyB Try.prog 24 = some (false, 1) := by kernel_rfl
theorem ty_26 : tyB Try.prog 26 = some (true, 8) := by kernel_rfl
theorem ty_3 : tyB Try.prog 3 = some (false, 1) := by kernel_rfl
theorem ty_31 : tyB Try.prog 31 = some (false, 1) := by kernel_rfl
theorem ty_52 : tyB Try.prog 52 = some (true, 4) := by kernel_rfl
theorem ty_54 : tyB Try.prog 54 = some (true, 9) := by kernel_rfl
theorem ty_98 : tyB Try.prog 98 = some (true, 2) := by kernel_rfl
theorem und_126 : Try.prog.underlying 126 = some (.int .u64) := by kernel_rfl
theorem und_20 : Try.prog.underlying 20 = some (.interface #[]) := by kernel_rfl
theorem und_3 : Try.prog.underlying 3 = some (.int .i64) := by kernel_rfl
theorem zero_100 : zeroB Try.prog 100 = some [.int .i64 0, .int .i64 0, .int .i64 0, .int .i64 0, .int .i64 0, .int .i64 0, .int .i64 0, .slice none 0 0, .int .i64 0, .int .i64 0] := by kernel_rfl
theorem zero_128 : zeroB Try.prog 128 = some [.nilFunc] := by kernel_rfl
theorem zero_131 : zeroB Try.prog 131 = some [.int .i64 0] := by kernel_rfl
theorem zero_142 : zeroB Try.prog 142 = some [.int .i64 0] := by kernel_rfl
theorem zero_144 : zeroB Try.prog 144 = some [.int .i64 0, .int .i64 0] := by kernel_rfl
theorem zero_23 : zeroB Try.prog 23 = some [.int .i64 0, .int .i64 0] := by kernel_rfl
theorem zero_3 : zeroB Try.prog 3 = some [.int .i64 0] := by kernel_rfl
theorem zero_31 : zeroB Try.prog 31 = some [.int .i64 0] := by kernel_rfl
theorem zero_54 : zeroB Try.prog 54 = some [.int .i64 0, .int .i64 0, .int .i64 0, .int .i64 0, .int .i64 0, .int .i64 0, .int .i64 0, .int .i64 0, .int .i64 0] := by kernel_rfl
theorem zero_98 : zeroB Try.prog 98 = some [.int .i64 0, .int .i64 0] := by kernel_rfl
end Go.Proofs.Ytjijeeadmhpfcaa
