/- The facts on the tables of types and on the entries of functions that the walks use. Written by program. -/
import Derived.Test.YthoheicppmbepaaGreatTypes
import Derived.Test.YthoheicppmbepaaGreatEngC
set_option linter.unusedSimpArgs false
set_option linter.unusedVariables false
namespace Go.Proofs.YthoheicppmbepaaGreat
open Go Go.Eng
theorem ap_55 : apB Tryz.prog 55 = some (3, 1, 8) := by kernel_rfl
theorem arr1_146 : arr1B Tryz.prog 146 = some 5 := by kernel_rfl
theorem arr_60 : arrB Tryz.prog 60 = some (4, 1) := by kernel_rfl
theorem ent_10 : Enters Tryz.prog 10 := enters_of Tryz.func10 (by kernel_rfl) rfl
theorem ent_110 : Enters Tryz.prog 110 := enters_of Tryz.func110 (by kernel_rfl) rfl
theorem ent_112 : Enters Tryz.prog 112 := enters_of Tryz.func112 (by kernel_rfl) rfl
theorem ent_12 : Enters Tryz.prog 12 := enters_of Tryz.func12 (by kernel_rfl) rfl
theorem ent_128 : Enters Tryz.prog 128 := enters_of Tryz.func128 (by kernel_rfl) rfl
theorem ent_129 : Enters Tryz.prog 129 := enters_of Tryz.func129 (by kernel_rfl) rfl
theorem ent_130 : Enters Tryz.prog 130 := enters_of Tryz.func130 (by kernel_rfl) rfl
theorem ent_131 : Enters Tryz.prog 131 := enters_of Tryz.func131 (by kernel_rfl) rfl
theorem ent_132 : Enters Tryz.prog 132 := enters_of Tryz.func132 (by kernel_rfl) rfl
theorem ent_14 : Enters Tryz.prog 14 := enters_of Tryz.func14 (by kernel_rfl) rfl
theorem ent_17 : Enters Tryz.prog 17 := enters_of Tryz.func17 (by kernel_rfl) rfl
theorem ent_19 : Enters Tryz.prog 19 := enters_of Tryz.func19 (by kernel_rfl) rfl
theorem ent_21 : Enters Tryz.prog 21 := enters_of Tryz.func21 (by kernel_rfl) rfl
theorem ent_22 : Enters Tryz.prog 22 := enters_of Tryz.func22 (by kernel_rfl) rfl
theorem ent_23 : Enters Tryz.prog 23 := enters_of Tryz.func23 (by kernel_rfl) rfl
theorem ent_24 : Enters Tryz.prog 24 := enters_of Tryz.func24 (by kernel_rfl) rfl
theorem ent_28 : Enters Tryz.prog 28 := enters_of Tryz.func28 (by kernel_rfl) rfl
theorem ent_29 : Enters Tryz.prog 29 := enters_of Tryz.func29 (by kernel_rfl) rfl
theorem ent_32 : Enters Tryz.prog 32 := enters_of Tryz.func32 (by kernel_rfl) rfl
theorem ent_33 : Enters Tryz.prog 33 := enters_of Tryz.func33 (by kernel_rfl) rfl
theorem ent_34 : Enters Tryz.prog 34 := enters_of Tryz.func34 (by kernel_rfl) rfl
theorem ent_35 : Enters Tryz.prog 35 := enters_of Tryz.func35 (by kernel_rfl) rfl
theorem ent_38 : Enters Tryz.prog 38 := enters_of Tryz.func38 (by kernel_rfl) rfl
theorem ent_40 : Enters Tryz.prog 40 := enters_of Tryz.func40 (by kernel_rfl) rfl
theorem ent_41 : Enters Tryz.prog 41 := enters_of Tryz.func41 (by kernel_rfl) rfl
theorem ent_42 : Enters Tryz.prog 42 := enters_of Tryz.func42 (by kernel_rfl) rfl
theorem ent_43 : Enters Tryz.prog 43 := enters_of Tryz.func43 (by kernel_rfl) rfl
theorem ent_44 : Enters Tryz.prog 44 := enters_of Tryz.func44 (by kernel_rfl) rfl
theorem ent_45 : Enters Tryz.prog 45 := enters_of Tryz.func45 (by kernel_rfl) rfl
theorem ent_47 : Enters Tryz.prog 47 := enters_of Tryz.func47 (by kernel_rfl) rfl
theorem ent_49 : Enters Tryz.prog 49 := enters_of Tryz.func49 (by kernel_rfl) rfl
theorem ent_50 : Enters Tryz.prog 50 := enters_of Tryz.func50 (by kernel_rfl) rfl
theorem ent_52 : Enters Tryz.prog 52 := enters_of Tryz.func52 (by kernel_rfl) rfl
theorem ent_54 : Enters Tryz.prog 54 := enters_of Tryz.func54 (by kernel_rfl) rfl
theorem ent_55 : Enters Tryz.prog 55 := enters_of Tryz.func55 (by kernel_rfl) rfl
theorem ent_56 : Enters Tryz.prog 56 := enters_of Tryz.func56 (by kernel_rfl) rfl
theorem ent_57 : Enters Tryz.prog 57 := enters_of Tryz.func57 (by kernel_rfl) rfl
theorem ent_58 : Enters Tryz.prog 58 := enters_of Tryz.func58 (by kernel_rfl) rfl
theorem ent_59 : Enters Tryz.prog 59 := enters_of Tryz.func59 (by kernel_rfl) rfl
theorem ent_6 : Enters Tryz.prog 6 := enters_of Tryz.func6 (by kernel_rfl) rfl
theorem ent_60 : Enters Tryz.prog 60 := enters_of Tryz.func60 (by kernel_rfl) rfl
theorem ent_62 : Enters Tryz.prog 62 := enters_of Tryz.func62 (by kernel_rfl) rfl
theorem ent_63 : Enters Tryz.prog 63 := enters_of Tryz.func63 (by kernel_rfl) rfl
theorem ent_65 : Enters Tryz.prog 65 := enters_of Tryz.func65 (by kernel_rfl) rfl
theorem ent_76 : Enters Tryz.prog 76 := enters_of Tryz.func76 (by kernel_rfl) rfl
theorem ent_77 : Enters Tryz.prog 77 := enters_of Tryz.func77 (by kernel_rfl) rfl
theorem ent_79 : Enters Tryz.prog 79 := enters_of Tryz.func79 (by kernel_rfl) rfl
theorem ent_8 : Enters Tryz.prog 8 := enters_of Tryz.func8 (by kernel_rfl) rfl
theorem ent_80 : Enters Tryz.prog 80 := enters_of Tryz.func80 (by kernel_rfl) rfl
theorem ent_81 : Enters Tryz.prog 81 := enters_of Tryz.func81 (by kernel_rfl) rfl
theorem ent_98 : Enters Tryz.prog 98 := enters_of Tryz.func98 (by kernel_rfl) rfl
theorem ent_99 : Enters Tryz.prog 99 := enters_of Tryz.func99 (by kernel_rfl) rfl
theorem eqB_118 : aggB Tryz.prog 118 = true := by kernel_rfl
theorem eqB_30 : aggB Tryz.prog 30 = true := by kernel_rfl
theorem field1_68_0 : field1B Tryz.prog 68 0 = some 0 := by kernel_rfl
theorem field1_68_1 : field1B Tryz.prog 68 1 = some 1 := by kernel_rfl
theorem fld_118_0 : fieldB Tryz.prog 118 0 = some 0 := by kernel_rfl
theorem fld_118_1 : fieldB Tryz.prog 118 1 = some 1 := by kernel_rfl
theorem fld_28_0 : fieldB Tryz.prog 28 0 = some 0 := by kernel_rfl
theorem fld_28_1 : fieldB Tryz.prog 28 1 = some 8 := by kernel_rfl
theorem fld_28_2 : fieldB Tryz.prog 28 2 = some 9 := by kernel_rfl
theorem fld_28_3 : fieldB Tryz.prog 28 3 = some 10 := by kernel_rfl
theorem fld_28_4 : fieldB Tryz.prog 28 4 = some 11 := by kernel_rfl
theorem fld_28_5 : fieldB Tryz.prog 28 5 = some 13 := by kernel_rfl
theorem fld_28_6 : fieldB Tryz.prog 28 6 = some 14 := by kernel_rfl
theorem fld_28_7 : fieldB Tryz.prog 28 7 = some 15 := by kernel_rfl
theorem fld_28_8 : fieldB Tryz.prog 28 8 = some 16 := by kernel_rfl
theorem fld_30_0 : fieldB Tryz.prog 30 0 = some 0 := by kernel_rfl
theorem fld_30_1 : fieldB Tryz.prog 30 1 = some 1 := by kernel_rfl
theorem fld_30_2 : fieldB Tryz.prog 30 2 = some 2 := by kernel_rfl
theorem fld_30_3 : fieldB Tryz.prog 30 3 = some 3 := by kernel_rfl
theorem fld_53_0 : fieldB Tryz.prog 53 0 = some 0 := by kernel_rfl
theorem fld_53_1 : fieldB Tryz.prog 53 1 = some 17 := by kernel_rfl
theorem fld_63_0 : fieldB Tryz.prog 63 0 = some 0 := by kernel_rfl
theorem fld_63_1 : fieldB Tryz.prog 63 1 = some 1 := by kernel_rfl
theorem fld_68_0 : fieldB Tryz.prog 68 0 = some 0 := by kernel_rfl
theorem fld_68_1 : fieldB Tryz.prog 68 1 = some 1 := by kernel_rfl
theorem kl_118 (a0 : Int) (a1 : Int) (a2 : Int) (a3 : Int) (a4 : Int) (c0 : Int) (c1 : Int) (c2 : Int) (c3 : Int) (c4 : Int) : eqF Tryz.prog 8 118 [.int .i64 a0, .int .i64 a1, .int .i64 a2, .int .i64 a3, .int .i64 a4] [.int .i64 c0, .int .i64 c1, .int .i64 c2, .int .i64 c3, .int .i64 c4] = some (decide (a0 = c0) && ((decide (a1 = c1) && (decide (a2 = c2) && (decide (a3 = c3) && (decide (a4 = c4) && true)))) && true)) := by kernel_rfl
theorem kl_30 (a0 : Int) (a1 : Int) (a2 : Int) (a3 : Int) (c0 : Int) (c1 : Int) (c2 : Int) (c3 : Int) : eqF Tryz.prog 8 30 [.int .i64 a0, .int .i64 a1, .int .i64 a2, .int .i64 a3] [.int .i64 c0, .int .i64 c1, .int .i64 c2, .int .i64 c3] = some (decide (a0 = c0) && (decide (a1 = c1) && (decide (a2 = c2) && (decide (a3 = c3) && true)))) := by kernel_rfl
theorem mapB_51 : mapB Tryz.prog 51 = some 68 := by kernel_rfl
theorem meth_139_pairworks_mount_hurts (v : Value) (w : World) : (method (Tryz.prog.types.size + Made.depth) 139 v "pairworks/mount.hurts").run Tryz.prog w = .ok (128, v) w := by kernel_rfl
theorem meth_140_pairworks_mount_hurts (v : Value) (w : World) : (method (Tryz.prog.types.size + Made.depth) 140 v "pairworks/mount.hurts").run Tryz.prog w = .ok (129, v) w := by kernel_rfl
theorem meth_141_pairworks_mount_hurts (v : Value) (w : World) : (method (Tryz.prog.types.size + Made.depth) 141 v "pairworks/mount.hurts").run Tryz.prog w = .ok (130, v) w := by kernel_rfl
theorem meth_142_pairworks_mount_hurts (v : Value) (w : World) : (method (Tryz.prog.types.size + Made.depth) 142 v "pairworks/mount.hurts").run Tryz.prog w = .ok (131, v) w := by kernel_rfl
theorem meth_143_pairworks_mount_hurts (v : Value) (w : World) : (method (Tryz.prog.types.size + Made.depth) 143 v "pairworks/mount.hurts").run Tryz.prog w = .ok (132, v) w := by kernel_rfl
theorem nah_139_pairworks_mount_hurts (v : Value) (w : World) : (nilAhead (Tryz.prog.types.size + Made.depth) 139 v "pairworks/mount.hurts").run Tryz.prog w = .ok (some false) w := by kernel_rfl
theorem nah_140_pairworks_mount_hurts (v : Value) (w : World) : (nilAhead (Tryz.prog.types.size + Made.depth) 140 v "pairworks/mount.hurts").run Tryz.prog w = .ok (some false) w := by kernel_rfl
theorem nah_141_pairworks_mount_hurts (v : Value) (w : World) : (nilAhead (Tryz.prog.types.size + Made.depth) 141 v "pairworks/mount.hurts").run Tryz.prog w = .ok (some false) w := by kernel_rfl
theorem nah_142_pairworks_mount_hurts (v : Value) (w : World) : (nilAhead (Tryz.prog.types.size + Made.depth) 142 v "pairworks/mount.hurts").run Tryz.prog w = .ok (some false) w := by kernel_rfl
theorem nah_143_pairworks_mount_hurts (v : Value) (w : World) : (nilAhead (Tryz.prog.types.size + Made.depth) 143 v "pairworks/mount.hurts").run Tryz.prog w = .ok (some false) w := by kernel_rfl
theorem noif_139 : (Tryz.prog.underlying 139).any (fun t => match t with | .interface _ => false | _ => true) = true := by kernel_rfl
theorem noif_140 : (Tryz.prog.underlying 140).any (fun t => match t with | .interface _ => false | _ => true) = true := by kernel_rfl
theorem noif_141 : (Tryz.prog.underlying 141).any (fun t => match t with | .interface _ => false | _ => true) = true := by kernel_rfl
theorem noif_142 : (Tryz.prog.underlying 142).any (fun t => match t with | .interface _ => false | _ => true) = true := by kernel_rfl
theorem noif_143 : (Tryz.prog.underlying 143).any (fun t => match t with | .interface _ => false | _ => true) = true := by kernel_rfl
theorem pair_23 : pairB Tryz.prog 23 = true := by kernel_rfl
theorem places_118 : placesB Tryz.prog 118 = some [(0, 1), (1, 4)] := by kernel_rfl
theorem places_139 : placesB Tryz.prog 139 = some [] := by kernel_rfl
theorem places_140 : placesB Tryz.prog 140 = some [] := by kernel_rfl
theorem places_141 : placesB Tryz.prog 141 = some [] := by kernel_rfl
theorem places_142 : placesB Tryz.prog 142 = some [] := by kernel_rfl
theorem places_143 : placesB Tryz.prog 143 = some [] := by kernel_rfl
theorem places_146 : placesB Tryz.prog 146 = some [(0, 1), (1, 1), (2, 1), (3, 1), (4, 1)] := by kernel_rfl
theorem places_26 : placesB Tryz.prog 26 = some [(0, 2), (2, 2), (4, 1), (5, 1), (6, 1), (7, 1)] := by kernel_rfl
theorem places_28 : placesB Tryz.prog 28 = some [(0, 8), (8, 1), (9, 1), (10, 1), (11, 2), (13, 1), (14, 1), (15, 1), (16, 1)] := by kernel_rfl
theorem places_30 : placesB Tryz.prog 30 = some [(0, 1), (1, 1), (2, 1), (3, 1)] := by kernel_rfl
theorem places_53 : placesB Tryz.prog 53 = some [(0, 17), (17, 1)] := by kernel_rfl
theorem places_60 : placesB Tryz.prog 60 = some [(0, 1), (1, 1), (2, 1), (3, 1)] := by kernel_rfl
theorem places_63 : placesB Tryz.prog 63 = some [(0, 1), (1, 4)] := by kernel_rfl
theorem places_68 : placesB Tryz.prog 68 = some [(0, 1), (1, 1)] := by kernel_rfl
theorem places_74 : placesB Tryz.prog 74 = some [(0, 2), (2, 2)] := by kernel_rfl
theorem places_76 : placesB Tryz.prog 76 = some [(0, 4), (4, 4), (8, 1)] := by kernel_rfl
theorem sl_103 : slB Tryz.prog 103 = some (68, 2) := by kernel_rfl
theorem sl_185 : slB Tryz.prog 185 = some (23, 2) := by kernel_rfl
theorem sl_96 : slB Tryz.prog 96 = some (30, 4) := by kernel_rfl
theorem ty_118 : tyB Tryz.prog 118 = some (true, 5) := by kernel_rfl
theorem ty_146 : tyB Tryz.prog 146 = some (true, 5) := by kernel_rfl
theorem ty_28 : tyB Tryz.prog 28 = some (true, 17) := by kernel_rfl
theorem ty_30 : tyB Tryz.prog 30 = some (true, 4) := by kernel_rfl
theorem ty_4 : tyB Tryz.prog 4 = some (false, 1) := by kernel_rfl
theorem ty_48 : tyB Tryz.prog 48 = some (false, 1) := by kernel_rfl
theorem ty_51 : tyB Tryz.prog 51 = some (false, 1) := by kernel_rfl
theorem ty_60 : tyB Tryz.prog 60 = some (true, 4) := by kernel_rfl
theorem ty_63 : tyB Tryz.prog 63 = some (true, 5) := by kernel_rfl
theorem ty_68 : tyB Tryz.prog 68 = some (true, 2) := by kernel_rfl
theorem ty_80 : tyB Tryz.prog 80 = some (false, 1) := by kernel_rfl
theorem und_105 : Tryz.prog.underlying 105 = some (.int .u64) := by kernel_rfl
theorem und_3 : Tryz.prog.underlying 3 = some (.int .i64) := by kernel_rfl
theorem zeroV_68 : zeroV Tryz.prog 68 = some (.agg #[.int .i64 0, .int .i64 0]) := by kernel_rfl
theorem zero_118 : zeroB Tryz.prog 118 = some [.int .i64 0, .int .i64 0, .int .i64 0, .int .i64 0, .int .i64 0] := by kernel_rfl
theorem zero_139 : zeroB Tryz.prog 139 = some [] := by kernel_rfl
theorem zero_140 : zeroB Tryz.prog 140 = some [] := by kernel_rfl
theorem zero_141 : zeroB Tryz.prog 141 = some [] := by kernel_rfl
theorem zero_142 : zeroB Tryz.prog 142 = some [] := by kernel_rfl
theorem zero_143 : zeroB Tryz.prog 143 = some [] := by kernel_rfl
theorem zero_146 : zeroB Tryz.prog 146 = some [.nilIface, .nilIface, .nilIface, .nilIface, .nilIface] := by kernel_rfl
theorem zero_26 : zeroB Tryz.prog 26 = some [.int .i64 0, .int .i64 0, .int .i64 0, .int .i64 0, .int .i64 0, .int .i64 0, .int .i64 0, .slice none 0 0] := by kernel_rfl
theorem zero_28 : zeroB Tryz.prog 28 = some [.int .i64 0, .int .i64 0, .int .i64 0, .int .i64 0, .int .i64 0, .int .i64 0, .int .i64 0, .slice none 0 0, .int .i64 0, .int .i64 0, .int .i64 0, .int .i64 0, .int .i64 0, .int .i64 0, .int .i64 0, .int .i64 0, .int .i64 0] := by kernel_rfl
theorem zero_30 : zeroB Tryz.prog 30 = some [.int .i64 0, .int .i64 0, .int .i64 0, .int .i64 0] := by kernel_rfl
theorem zero_4 : zeroB Tryz.prog 4 = some [.bool false] := by kernel_rfl
theorem zero_53 : zeroB Tryz.prog 53 = some [.int .i64 0, .int .i64 0, .int .i64 0, .int .i64 0, .int .i64 0, .int .i64 0, .int .i64 0, .slice none 0 0, .int .i64 0, .int .i64 0, .int .i64 0, .int .i64 0, .int .i64 0, .int .i64 0, .int .i64 0, .int .i64 0, .int .i64 0, .map none] := by kernel_rfl
theorem zero_60 : zeroB Tryz.prog 60 = some [.int .i64 0, .int .i64 0, .int .i64 0, .int .i64 0] := by kernel_rfl
theorem zero_63 : zeroB Tryz.prog 63 = some [.pointer none, .int .i64 0, .int .i64 0, .int .i64 0, .int .i64 0] := by kernel_rfl
theorem zero_68 : zeroB Tryz.prog 68 = some [.int .i64 0, .int .i64 0] := by kernel_rfl
theorem zero_74 : zeroB Tryz.prog 74 = some [.int .i64 0, .int .i64 0, .int .i64 0, .int .i64 0] := by kernel_rfl
end Go.Proofs.YthoheicppmbepaaGreat
