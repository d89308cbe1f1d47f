/- The facts on the tables of types and on the entries of functions that the walks use. Written by program. -/
import Derived.Test.YthoheicppmbepaaTypes
import Derived.Test.YthoheicppmbepaaEngC
set_option linter.unusedSimpArgs false
set_option linter.unusedVariables false
namespace Go.Proofs.Ythoheicppmbepaa
open Go Go.Eng
theorem ap_101 : apB Try.prog 101 = some (3, 1, 8) := by kernel_rfl
theorem arr1_158 : arr1B Try.prog 158 = some 5 := by kernel_rfl
theorem arr_73 : arrB Try.prog 73 = some (4, 1) := by kernel_rfl
theorem ent_10 : Enters Try.prog 10 := enters_of Try.func10 (by kernel_rfl) rfl
theorem ent_11 : Enters Try.prog 11 := enters_of Try.func11 (by kernel_rfl) rfl
theorem ent_115 : Enters Try.prog 115 := enters_of Try.func115 (by kernel_rfl) rfl
theorem ent_116 : Enters Try.prog 116 := enters_of Try.func116 (by kernel_rfl) rfl
theorem ent_117 : Enters Try.prog 117 := enters_of Try.func117 (by kernel_rfl) rfl
theorem ent_118 : Enters Try.prog 118 := enters_of Try.func118 (by kernel_rfl) rfl
theorem ent_119 : Enters Try.prog 119 := enters_of Try.func119 (by kernel_rfl) rfl
theorem ent_12 : Enters Try.prog 12 := enters_of Try.func12 (by kernel_rfl) rfl
theorem ent_13 : Enters Try.prog 13 := enters_of Try.func13 (by kernel_rfl) rfl
theorem ent_14 : Enters Try.prog 14 := enters_of Try.func14 (by kernel_rfl) rfl
theorem ent_15 : Enters Try.prog 15 := enters_of Try.func15 (by kernel_rfl) rfl
theorem ent_17 : Enters Try.prog 17 := enters_of Try.func17 (by kernel_rfl) rfl
theorem ent_18 : Enters Try.prog 18 := enters_of Try.func18 (by kernel_rfl) rfl
theorem ent_19 : Enters Try.prog 19 := enters_of Try.func19 (by kernel_rfl) rfl
theorem ent_20 : Enters Try.prog 20 := enters_of Try.func20 (by kernel_rfl) rfl
theorem ent_21 : Enters Try.prog 21 := enters_of Try.func21 (by kernel_rfl) rfl
theorem ent_22 : Enters Try.prog 22 := enters_of Try.func22 (by kernel_rfl) rfl
theorem ent_23 : Enters Try.prog 23 := enters_of Try.func23 (by kernel_rfl) rfl
theorem ent_24 : Enters Try.prog 24 := enters_of Try.func24 (by kernel_rfl) rfl
theorem ent_25 : Enters Try.prog 25 := enters_of Try.func25 (by kernel_rfl) rfl
theorem ent_26 : Enters Try.prog 26 := enters_of Try.func26 (by kernel_rfl) rfl
theorem ent_28 : Enters Try.prog 28 := enters_of Try.func28 (by kernel_rfl) rfl
theorem ent_29 : Enters Try.prog 29 := enters_of Try.func29 (by kernel_rfl) rfl
theorem ent_32 : Enters Try.prog 32 := enters_of Try.func32 (by kernel_rfl) rfl
theorem ent_33 : Enters Try.prog 33 := enters_of Try.func33 (by kernel_rfl) rfl
theorem ent_34 : Enters Try.prog 34 := enters_of Try.func34 (by kernel_rfl) rfl
theorem ent_35 : Enters Try.prog 35 := enters_of Try.func35 (by kernel_rfl) rfl
theorem ent_36 : Enters Try.prog 36 := enters_of Try.func36 (by kernel_rfl) rfl
theorem ent_37 : Enters Try.prog 37 := enters_of Try.func37 (by kernel_rfl) rfl
theorem ent_38 : Enters Try.prog 38 := enters_of Try.func38 (by kernel_rfl) rfl
theorem ent_39 : Enters Try.prog 39 := enters_of Try.func39 (by kernel_rfl) rfl
theorem ent_49 : Enters Try.prog 49 := enters_of Try.func49 (by kernel_rfl) rfl
theorem ent_50 : Enters Try.prog 50 := enters_of Try.func50 (by kernel_rfl) rfl
theorem ent_51 : Enters Try.prog 51 := enters_of Try.func51 (by kernel_rfl) rfl
theorem ent_54 : Enters Try.prog 54 := enters_of Try.func54 (by kernel_rfl) rfl
theorem ent_55 : Enters Try.prog 55 := enters_of Try.func55 (by kernel_rfl) rfl
theorem ent_56 : Enters Try.prog 56 := enters_of Try.func56 (by kernel_rfl) rfl
theorem ent_57 : Enters Try.prog 57 := enters_of Try.func57 (by kernel_rfl) rfl
theorem ent_58 : Enters Try.prog 58 := enters_of Try.func58 (by kernel_rfl) rfl
theorem ent_59 : Enters Try.prog 59 := enters_of Try.func59 (by kernel_rfl) rfl
theorem ent_60 : Enters Try.prog 60 := enters_of Try.func60 (by kernel_rfl) rfl
theorem ent_61 : Enters Try.prog 61 := enters_of Try.func61 (by kernel_rfl) rfl
theorem ent_62 : Enters Try.prog 62 := enters_of Try.func62 (by kernel_rfl) rfl
theorem ent_63 : Enters Try.prog 63 := enters_of Try.func63 (by kernel_rfl) rfl
theorem ent_70 : Enters Try.prog 70 := enters_of Try.func70 (by kernel_rfl) rfl
theorem ent_71 : Enters Try.prog 71 := enters_of Try.func71 (by kernel_rfl) rfl
theorem ent_72 : Enters Try.prog 72 := enters_of Try.func72 (by kernel_rfl) rfl
theorem ent_73 : Enters Try.prog 73 := enters_of Try.func73 (by kernel_rfl) rfl
theorem ent_74 : Enters Try.prog 74 := enters_of Try.func74 (by kernel_rfl) rfl
theorem ent_75 : Enters Try.prog 75 := enters_of Try.func75 (by kernel_rfl) rfl
theorem ent_76 : Enters Try.prog 76 := enters_of Try.func76 (by kernel_rfl) rfl
theorem ent_81 : Enters Try.prog 81 := enters_of Try.func81 (by kernel_rfl) rfl
theorem ent_82 : Enters Try.prog 82 := enters_of Try.func82 (by kernel_rfl) rfl
theorem ent_84 : Enters Try.prog 84 := enters_of Try.func84 (by kernel_rfl) rfl
theorem ent_85 : Enters Try.prog 85 := enters_of Try.func85 (by kernel_rfl) rfl
theorem ent_86 : Enters Try.prog 86 := enters_of Try.func86 (by kernel_rfl) rfl
theorem ent_87 : Enters Try.prog 87 := enters_of Try.func87 (by kernel_rfl) rfl
theorem ent_88 : Enters Try.prog 88 := enters_of Try.func88 (by kernel_rfl) rfl
theorem ent_89 : Enters Try.prog 89 := enters_of Try.func89 (by kernel_rfl) rfl
theorem ent_95 : Enters Try.prog 95 := enters_of Try.func95 (by kernel_rfl) rfl
theorem ent_97 : Enters Try.prog 97 := enters_of Try.func97 (by kernel_rfl) rfl
theorem eqB_123 : aggB Try.prog 123 = true := by kernel_rfl
theorem eqB_33 : aggB Try.prog 33 = true := by kernel_rfl
theorem field1_106_0 : field1B Try.prog 106 0 = some 0 := by kernel_rfl
theorem field1_106_1 : field1B Try.prog 106 1 = some 1 := by kernel_rfl
theorem fld_106_0 : fieldB Try.prog 106 0 = some 0 := by kernel_rfl
theorem fld_106_1 : fieldB Try.prog 106 1 = some 1 := by kernel_rfl
theorem fld_123_0 : fieldB Try.prog 123 0 = some 0 := by kernel_rfl
theorem fld_123_1 : fieldB Try.prog 123 1 = some 1 := by kernel_rfl
theorem fld_28_0 : fieldB Try.prog 28 0 = some 0 := by kernel_rfl
theorem fld_28_1 : fieldB Try.prog 28 1 = some 8 := by kernel_rfl
theorem fld_28_2 : fieldB Try.prog 28 2 = some 9 := by kernel_rfl
theorem fld_28_3 : fieldB Try.prog 28 3 = some 10 := by kernel_rfl
theorem fld_28_4 : fieldB Try.prog 28 4 = some 11 := by kernel_rfl
theorem fld_28_5 : fieldB Try.prog 28 5 = some 13 := by kernel_rfl
theorem fld_28_6 : fieldB Try.prog 28 6 = some 14 := by kernel_rfl
theorem fld_28_7 : fieldB Try.prog 28 7 = some 15 := by kernel_rfl
theorem fld_28_8 : fieldB Try.prog 28 8 = some 16 := by kernel_rfl
theorem fld_33_0 : fieldB Try.prog 33 0 = some 0 := by kernel_rfl
theorem fld_33_1 : fieldB Try.prog 33 1 = some 1 := by kernel_rfl
theorem fld_33_2 : fieldB Try.prog 33 2 = some 2 := by kernel_rfl
theorem fld_33_3 : fieldB Try.prog 33 3 = some 3 := by kernel_rfl
theorem fld_79_0 : fieldB Try.prog 79 0 = some 0 := by kernel_rfl
theorem fld_79_1 : fieldB Try.prog 79 1 = some 17 := by kernel_rfl
theorem fld_99_0 : fieldB Try.prog 99 0 = some 0 := by kernel_rfl
theorem fld_99_1 : fieldB Try.prog 99 1 = some 1 := by kernel_rfl
theorem kl_123 (a0 : Int) (a1 : Int) (a2 : Int) (a3 : Int) (a4 : Int) (c0 : Int) (c1 : Int) (c2 : Int) (c3 : Int) (c4 : Int) : eqF Try.prog 8 123 [.int .i64 a0, .int .i64 a1, .int .i64 a2, .int .i64 a3, .int .i64 a4] [.int .i64 c0, .int .i64 c1, .int .i64 c2, .int .i64 c3, .int .i64 c4] = some (decide (a0 = c0) && ((decide (a1 = c1) && (decide (a2 = c2) && (decide (a3 = c3) && (decide (a4 = c4) && true)))) && true)) := by kernel_rfl
theorem kl_33 (a0 : Int) (a1 : Int) (a2 : Int) (a3 : Int) (c0 : Int) (c1 : Int) (c2 : Int) (c3 : Int) : eqF Try.prog 8 33 [.int .i64 a0, .int .i64 a1, .int .i64 a2, .int .i64 a3] [.int .i64 c0, .int .i64 c1, .int .i64 c2, .int .i64 c3] = some (decide (a0 = c0) && (decide (a1 = c1) && (decide (a2 = c2) && (decide (a3 = c3) && true)))) := by kernel_rfl
theorem mapB_77 : mapB Try.prog 77 = some 106 := by kernel_rfl
theorem meth_151_pairworks_mount_hurts (v : Value) (w : World) : (method (Try.prog.types.size + Made.depth) 151 v "pairworks/mount.hurts").run Try.prog w = .ok (115, v) w := by kernel_rfl
theorem meth_152_pairworks_mount_hurts (v : Value) (w : World) : (method (Try.prog.types.size + Made.depth) 152 v "pairworks/mount.hurts").run Try.prog w = .ok (116, v) w := by kernel_rfl
theorem meth_153_pairworks_mount_hurts (v : Value) (w : World) : (method (Try.prog.types.size + Made.depth) 153 v "pairworks/mount.hurts").run Try.prog w = .ok (117, v) w := by kernel_rfl
theorem meth_154_pairworks_mount_hurts (v : Value) (w : World) : (method (Try.prog.types.size + Made.depth) 154 v "pairworks/mount.hurts").run Try.prog w = .ok (118, v) w := by kernel_rfl
theorem meth_155_pairworks_mount_hurts (v : Value) (w : World) : (method (Try.prog.types.size + Made.depth) 155 v "pairworks/mount.hurts").run Try.prog w = .ok (119, v) w := by kernel_rfl
theorem nah_151_pairworks_mount_hurts (v : Value) (w : World) : (nilAhead (Try.prog.types.size + Made.depth) 151 v "pairworks/mount.hurts").run Try.prog w = .ok (some false) w := by kernel_rfl
theorem nah_152_pairworks_mount_hurts (v : Value) (w : World) : (nilAhead (Try.prog.types.size + Made.depth) 152 v "pairworks/mount.hurts").run Try.prog w = .ok (some false) w := by kernel_rfl
theorem nah_153_pairworks_mount_hurts (v : Value) (w : World) : (nilAhead (Try.prog.types.size + Made.depth) 153 v "pairworks/mount.hurts").run Try.prog w = .ok (some false) w := by kernel_rfl
theorem nah_154_pairworks_mount_hurts (v : Value) (w : World) : (nilAhead (Try.prog.types.size + Made.depth) 154 v "pairworks/mount.hurts").run Try.prog w = .ok (some false) w := by kernel_rfl
theorem nah_155_pairworks_mount_hurts (v : Value) (w : World) : (nilAhead (Try.prog.types.size + Made.depth) 155 v "pairworks/mount.hurts").run Try.prog w = .ok (some false) w := by kernel_rfl
theorem noif_151 : (Try.prog.underlying 151).any (fun t => match t with | .interface _ => false | _ => true) = true := by kernel_rfl
theorem noif_152 : (Try.prog.underlying 152).any (fun t => match t with | .interface _ => false | _ => true) = true := by kernel_rfl
theorem noif_153 : (Try.prog.underlying 153).any (fun t => match t with | .interface _ => false | _ => true) = true := by kernel_rfl
theorem noif_154 : (Try.prog.underlying 154).any (fun t => match t with | .interface _ => false | _ => true) = true := by kernel_rfl
theorem noif_155 : (Try.prog.underlying 155).any (fun t => match t with | .interface _ => false | _ => true) = true := by kernel_rfl
theorem pair_23 : pairB Try.prog 23 = true := by kernel_rfl
theorem places_106 : placesB Try.prog 106 = some [(0, 1), (1, 1)] := by kernel_rfl
theorem places_123 : placesB Try.prog 123 = some [(0, 1), (1, 4)] := by kernel_rfl
theorem places_151 : placesB Try.prog 151 = some [] := by kernel_rfl
theorem places_152 : placesB Try.prog 152 = some [] := by kernel_rfl
theorem places_153 : placesB Try.prog 153 = some [] := by kernel_rfl
theorem places_154 : placesB Try.prog 154 = some [] := by kernel_rfl
theorem places_155 : placesB Try.prog 155 = some [] := by kernel_rfl
theorem places_158 : placesB Try.prog 158 = some [(0, 1), (1, 1), (2, 1), (3, 1), (4, 1)] := by kernel_rfl
theorem places_26 : placesB Try.prog 26 = some [(0, 2), (2, 2), (4, 1), (5, 1), (6, 1), (7, 1)] := by kernel_rfl
theorem places_28 : placesB Try.prog 28 = some [(0, 8), (8, 1), (9, 1), (10, 1), (11, 2), (13, 1), (14, 1), (15, 1), (16, 1)] := by kernel_rfl
theorem places_33 : placesB Try.prog 33 = some [(0, 1), (1, 1), (2, 1), (3, 1)] := by kernel_rfl
theorem places_44 : placesB Try.prog 44 = some [(0, 2), (2, 2)] := by kernel_rfl
theorem places_46 : placesB Try.prog 46 = some [(0, 4), (4, 4), (8, 1)] := by kernel_rfl
theorem places_73 : placesB Try.prog 73 = some [(0, 1), (1, 1), (2, 1), (3, 1)] := by kernel_rfl
theorem places_79 : placesB Try.prog 79 = some [(0, 17), (17, 1)] := by kernel_rfl
theorem places_99 : placesB Try.prog 99 = some [(0, 1), (1, 4)] := by kernel_rfl
theorem sl_118 : slB Try.prog 118 = some (33, 4) := by kernel_rfl
theorem sl_138 : slB Try.prog 138 = some (106, 2) := by kernel_rfl
theorem sl_178 : slB Try.prog 178 = some (23, 2) := by kernel_rfl
theorem sl_29 : slB Try.prog 29 = some (80, 1) := by kernel_rfl
theorem ty_106 : tyB Try.prog 106 = some (true, 2) := by kernel_rfl
theorem ty_110 : tyB Try.prog 110 = some (false, 1) := by kernel_rfl
theorem ty_123 : tyB Try.prog 123 = some (true, 5) := by kernel_rfl
theorem ty_158 : tyB Try.prog 158 = some (true, 5) := by kernel_rfl
theorem ty_28 : tyB Try.prog 28 = some (true, 17) := by kernel_rfl
theorem ty_29 : tyB Try.prog 29 = some (false, 1) := by kernel_rfl
theorem ty_33 : tyB Try.prog 33 = some (true, 4) := by kernel_rfl
theorem ty_4 : tyB Try.prog 4 = some (false, 1) := by kernel_rfl
theorem ty_69 : tyB Try.prog 69 = some (false, 1) := by kernel_rfl
theorem ty_73 : tyB Try.prog 73 = some (true, 4) := by kernel_rfl
theorem ty_77 : tyB Try.prog 77 = some (false, 1) := by kernel_rfl
theorem ty_80 : tyB Try.prog 80 = some (false, 1) := by kernel_rfl
theorem ty_99 : tyB Try.prog 99 = some (true, 5) := by kernel_rfl
theorem und_139 : Try.prog.underlying 139 = some (.int .u64) := by kernel_rfl
theorem und_3 : Try.prog.underlying 3 = some (.int .i64) := by kernel_rfl
theorem und_80 : Try.prog.underlying 80 = some (.int .u16) := by kernel_rfl
theorem zeroV_106 : zeroV Try.prog 106 = some (.agg #[.int .i64 0, .int .i64 0]) := by kernel_rfl
theorem zero_106 : zeroB Try.prog 106 = some [.int .i64 0, .int .i64 0] := by kernel_rfl
theorem zero_123 : zeroB Try.prog 123 = some [.int .i64 0, .int .i64 0, .int .i64 0, .int .i64 0, .int .i64 0] := by kernel_rfl
theorem zero_151 : zeroB Try.prog 151 = some [] := by kernel_rfl
theorem zero_152 : zeroB Try.prog 152 = some [] := by kernel_rfl
theorem zero_153 : zeroB Try.prog 153 = some [] := by kernel_rfl
theorem zero_154 : zeroB Try.prog 154 = some [] := by kernel_rfl
theorem zero_155 : zeroB Try.prog 155 = some [] := by kernel_rfl
theorem zero_158 : zeroB Try.prog 158 = some [.nilIface, .nilIface, .nilIface, .nilIface, .nilIface] := by kernel_rfl
theorem zero_26 : zeroB Try.prog 26 = some [.int .i64 0, .int .i64 0, .int .i64 0, .int .i64 0, .int .i64 0, .int .i64 0, .int .i64 0, .slice none 0 0] := by kernel_rfl
theorem zero_28 : zeroB Try.prog 28 = some [.int .i64 0, .int .i64 0, .int .i64 0, .int .i64 0, .int .i64 0, .int .i64 0, .int .i64 0, .slice none 0 0, .int .i64 0, .int .i64 0, .int .i64 0, .int .i64 0, .int .i64 0, .int .i64 0, .int .i64 0, .int .i64 0, .int .i64 0] := by kernel_rfl
theorem zero_33 : zeroB Try.prog 33 = some [.int .i64 0, .int .i64 0, .int .i64 0, .int .i64 0] := by kernel_rfl
theorem zero_4 : zeroB Try.prog 4 = some [.bool false] := by kernel_rfl
theorem zero_44 : zeroB Try.prog 44 = some [.int .i64 0, .int .i64 0, .int .i64 0, .int .i64 0] := by kernel_rfl
theorem zero_73 : zeroB Try.prog 73 = some [.int .i64 0, .int .i64 0, .int .i64 0, .int .i64 0] := by kernel_rfl
theorem zero_79 : zeroB Try.prog 79 = some [.int .i64 0, .int .i64 0, .int .i64 0, .int .i64 0, .int .i64 0, .int .i64 0, .int .i64 0, .slice none 0 0, .int .i64 0, .int .i64 0, .int .i64 0, .int .i64 0, .int .i64 0, .int .i64 0, .int .i64 0, .int .i64 0, .int .i64 0, .map none] := by kernel_rfl
theorem zero_99 : zeroB Try.prog 99 = some [.pointer none, .int .i64 0, .int .i64 0, .int .i64 0, .int .i64 0] := by kernel_rfl
end Go.Proofs.Ythoheicppmbepaa
