/- The facts on the tables of types and on the entries of functions that the walks use. Written by program. -/
import Derived.Test.YthoheicppmbepaaProg
import Derived.Test.YthoheicppmbepaaEngA
set_option linter.unusedSimpArgs false
set_option linter.unusedVariables false
namespace Go.Proofs.Ythoheicppmbepaa
open Go Go.Eng
theorem arr_85 : arrB Try.prog 85 = some (2, 1) := by kernel_rfl
theorem ent_113 : Enters Try.prog 113 := enters_of Try.func113 (by kernel_rfl) rfl
theorem ent_114 : Enters Try.prog 114 := enters_of Try.func114 (by kernel_rfl) rfl
theorem ent_40 : Enters Try.prog 40 := enters_of Try.func40 (by kernel_rfl) rfl
theorem ent_41 : Enters Try.prog 41 := enters_of Try.func41 (by kernel_rfl) rfl
theorem ent_42 : Enters Try.prog 42 := enters_of Try.func42 (by kernel_rfl) rfl
theorem ent_43 : Enters Try.prog 43 := enters_of Try.func43 (by kernel_rfl) rfl
theorem ent_44 : Enters Try.prog 44 := enters_of Try.func44 (by kernel_rfl) rfl
theorem ent_45 : Enters Try.prog 45 := enters_of Try.func45 (by kernel_rfl) rfl
theorem ent_46 : Enters Try.prog 46 := enters_of Try.func46 (by kernel_rfl) rfl
theorem ent_47 : Enters Try.prog 47 := enters_of Try.func47 (by kernel_rfl) rfl
theorem ent_48 : Enters Try.prog 48 := enters_of Try.func48 (by kernel_rfl) rfl
theorem ent_52 : Enters Try.prog 52 := enters_of Try.func52 (by kernel_rfl) rfl
theorem ent_53 : Enters Try.prog 53 := enters_of Try.func53 (by kernel_rfl) rfl
theorem ent_64 : Enters Try.prog 64 := enters_of Try.func64 (by kernel_rfl) rfl
theorem ent_65 : Enters Try.prog 65 := enters_of Try.func65 (by kernel_rfl) rfl
theorem ent_66 : Enters Try.prog 66 := enters_of Try.func66 (by kernel_rfl) rfl
theorem ent_67 : Enters Try.prog 67 := enters_of Try.func67 (by kernel_rfl) rfl
theorem ent_68 : Enters Try.prog 68 := enters_of Try.func68 (by kernel_rfl) rfl
theorem ent_69 : Enters Try.prog 69 := enters_of Try.func69 (by kernel_rfl) rfl
theorem ent_77 : Enters Try.prog 77 := enters_of Try.func77 (by kernel_rfl) rfl
theorem ent_78 : Enters Try.prog 78 := enters_of Try.func78 (by kernel_rfl) rfl
theorem ent_79 : Enters Try.prog 79 := enters_of Try.func79 (by kernel_rfl) rfl
theorem ent_80 : Enters Try.prog 80 := enters_of Try.func80 (by kernel_rfl) rfl
theorem ent_83 : Enters Try.prog 83 := enters_of Try.func83 (by kernel_rfl) rfl
theorem ent_90 : Enters Try.prog 90 := enters_of Try.func90 (by kernel_rfl) rfl
theorem ent_91 : Enters Try.prog 91 := enters_of Try.func91 (by kernel_rfl) rfl
theorem ent_92 : Enters Try.prog 92 := enters_of Try.func92 (by kernel_rfl) rfl
theorem ent_93 : Enters Try.prog 93 := enters_of Try.func93 (by kernel_rfl) rfl
theorem ent_94 : Enters Try.prog 94 := enters_of Try.func94 (by kernel_rfl) rfl
theorem ent_96 : Enters Try.prog 96 := enters_of Try.func96 (by kernel_rfl) rfl
theorem field1_23_0 : field1B Try.prog 23 0 = some 0 := by kernel_rfl
theorem field1_23_1 : field1B Try.prog 23 1 = some 1 := by kernel_rfl
theorem fld_129_0 : fieldB Try.prog 129 0 = some 0 := by kernel_rfl
theorem fld_146_0 : fieldB Try.prog 146 0 = some 0 := by kernel_rfl
theorem fld_148_0 : fieldB Try.prog 148 0 = some 0 := by kernel_rfl
theorem fld_148_1 : fieldB Try.prog 148 1 = some 1 := by kernel_rfl
theorem fld_23_0 : fieldB Try.prog 23 0 = some 0 := by kernel_rfl
theorem fld_23_1 : fieldB Try.prog 23 1 = some 1 := by kernel_rfl
theorem fld_26_0 : fieldB Try.prog 26 0 = some 0 := by kernel_rfl
theorem fld_26_1 : fieldB Try.prog 26 1 = some 2 := by kernel_rfl
theorem fld_26_2 : fieldB Try.prog 26 2 = some 4 := by kernel_rfl
theorem fld_26_3 : fieldB Try.prog 26 3 = some 5 := by kernel_rfl
theorem fld_26_4 : fieldB Try.prog 26 4 = some 6 := by kernel_rfl
theorem fld_26_5 : fieldB Try.prog 26 5 = some 7 := by kernel_rfl
theorem fld_44_0 : fieldB Try.prog 44 0 = some 0 := by kernel_rfl
theorem fld_44_1 : fieldB Try.prog 44 1 = some 2 := by kernel_rfl
theorem fld_46_0 : fieldB Try.prog 46 0 = some 0 := by kernel_rfl
theorem fld_46_1 : fieldB Try.prog 46 1 = some 4 := by kernel_rfl
theorem fld_46_2 : fieldB Try.prog 46 2 = some 8 := by kernel_rfl
theorem fld_87_0 : fieldB Try.prog 87 0 = some 0 := by kernel_rfl
theorem fld_87_1 : fieldB Try.prog 87 1 = some 8 := by kernel_rfl
theorem fol_ : Try.prog.follows .mixedOrders = true := by kernel_rfl
theorem meth_146_pairworks_pair_powers (v : Value) (w : World) : (method (Try.prog.types.size + Made.depth) 146 v "pairworks/pair.powers").run Try.prog w = .ok (113, v) w := by kernel_rfl
theorem meth_148_pairworks_pair_powers (v : Value) (w : World) : (method (Try.prog.types.size + Made.depth) 148 v "pairworks/pair.powers").run Try.prog w = .ok (114, v) w := by kernel_rfl
theorem noif_129 : (Try.prog.underlying 129).any (fun t => match t with | .interface _ => false | _ => true) = true := by kernel_rfl
theorem noif_146 : (Try.prog.underlying 146).any (fun t => match t with | .interface _ => false | _ => true) = true := by kernel_rfl
theorem noif_148 : (Try.prog.underlying 148).any (fun t => match t with | .interface _ => false | _ => true) = true := by kernel_rfl
theorem places_129 : placesB Try.prog 129 = some [(0, 1)] := by kernel_rfl
theorem places_146 : placesB Try.prog 146 = some [(0, 1)] := by kernel_rfl
theorem places_148 : placesB Try.prog 148 = some [(0, 1), (1, 1)] := by kernel_rfl
theorem places_23 : placesB Try.prog 23 = some [(0, 1), (1, 1)] := by kernel_rfl
theorem places_85 : placesB Try.prog 85 = some [(0, 1), (1, 1)] := by kernel_rfl
theorem places_87 : placesB Try.prog 87 = some [(0, 8), (8, 2)] := by kernel_rfl
theorem sl_101 : slB Try.prog 101 = some (3, 1) := by kernel_rfl
theorem sl_144 : slB Try.prog 144 = some (85, 2) := by kernel_rfl
theorem sl_24 : slB Try.prog 24 = some (46, 9) := by kernel_rfl
theorem sl_92 : slB Try.prog 92 = some (94, 1) := by kernel_rfl
theorem ty_115 : tyB Try.prog 115 = some (false, 1) := by kernel_rfl
theorem ty_129 : tyB Try.prog 129 = some (true, 1) := by kernel_rfl
theorem ty_23 : tyB Try.prog 23 = some (true, 2) := by kernel_rfl
theorem ty_24 : tyB Try.prog 24 = some (false, 1) := by kernel_rfl
theorem ty_26 : tyB Try.prog 26 = some (true, 8) := by kernel_rfl
theorem ty_3 : tyB Try.prog 3 = some (false, 1) := by kernel_rfl
theorem ty_34 : tyB Try.prog 34 = some (false, 1) := by kernel_rfl
theorem ty_44 : tyB Try.prog 44 = some (true, 4) := by kernel_rfl
theorem ty_46 : tyB Try.prog 46 = some (true, 9) := by kernel_rfl
theorem ty_83 : tyB Try.prog 83 = some (false, 1) := by kernel_rfl
theorem ty_85 : tyB Try.prog 85 = some (true, 2) := by kernel_rfl
theorem ty_94 : tyB Try.prog 94 = some (false, 1) := by kernel_rfl
theorem und_20 : Try.prog.underlying 20 = some (.interface #[]) := by kernel_rfl
theorem zero_115 : zeroB Try.prog 115 = some [.nilFunc] := by kernel_rfl
theorem zero_129 : zeroB Try.prog 129 = some [.int .i64 0] := by kernel_rfl
theorem zero_146 : zeroB Try.prog 146 = some [.int .i64 0] := by kernel_rfl
theorem zero_148 : zeroB Try.prog 148 = some [.int .i64 0, .int .i64 0] := by kernel_rfl
theorem zero_23 : zeroB Try.prog 23 = some [.int .i64 0, .int .i64 0] := by kernel_rfl
theorem zero_3 : zeroB Try.prog 3 = some [.int .i64 0] := by kernel_rfl
theorem zero_34 : zeroB Try.prog 34 = some [.int .i64 0] := by kernel_rfl
theorem zero_46 : zeroB Try.prog 46 = some [.int .i64 0, .int .i64 0, .int .i64 0, .int .i64 0, .int .i64 0, .int .i64 0, .int .i64 0, .int .i64 0, .int .i64 0] := by kernel_rfl
theorem zero_83 : zeroB Try.prog 83 = some [.pointer none] := by kernel_rfl
theorem zero_85 : zeroB Try.prog 85 = some [.int .i64 0, .int .i64 0] := by kernel_rfl
theorem zero_87 : zeroB Try.prog 87 = some [.int .i64 0, .int .i64 0, .int .i64 0, .int .i64 0, .int .i64 0, .int .i64 0, .int .i64 0, .slice none 0 0, .int .i64 0, .int .i64 0] := by kernel_rfl
theorem zero_94 : zeroB Try.prog 94 = some [.nilFunc] := by kernel_rfl
end Go.Proofs.Ythoheicppmbepaa
