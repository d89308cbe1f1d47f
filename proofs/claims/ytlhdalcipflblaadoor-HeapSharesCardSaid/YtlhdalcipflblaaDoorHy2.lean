/- The facts on the tables of types and on the entries of functions that the walks use. Written by program. -/
import Derived.Test.YtlhdalcipflblaaDoorHy
import Derived.Test.YtlhdalcipflblaaDoorEngC
set_option linter.unusedSimpArgs false
set_option linter.unusedVariables false
namespace Go.Proofs.YtlhdalcipflblaaDoor
open Go Go.Eng
theorem ap_69 : apB Tryd.prog 69 = some (95, 3, 40) := by kernel_rfl
theorem ap_70 : apB Tryd.prog 70 = some (68, 1, 8) := by kernel_rfl
theorem arrN_118 : arrNB Tryd.prog 118 = some (2, 2) := by kernel_rfl
theorem ent_129 : Enters Tryd.prog 129 := enters_of Tryd.func129 (by kernel_rfl) rfl
theorem ent_46 : Enters Tryd.prog 46 := enters_of Tryd.func46 (by kernel_rfl) rfl
theorem ent_62 : Enters Tryd.prog 62 := enters_of Tryd.func62 (by kernel_rfl) rfl
theorem ent_63 : Enters Tryd.prog 63 := enters_of Tryd.func63 (by kernel_rfl) rfl
theorem ent_64 : Enters Tryd.prog 64 := enters_of Tryd.func64 (by kernel_rfl) rfl
theorem ent_71 : Enters Tryd.prog 71 := enters_of Tryd.func71 (by kernel_rfl) rfl
theorem ent_74 : Enters Tryd.prog 74 := enters_of Tryd.func74 (by kernel_rfl) rfl
theorem ent_75 : Enters Tryd.prog 75 := enters_of Tryd.func75 (by kernel_rfl) rfl
theorem ent_76 : Enters Tryd.prog 76 := enters_of Tryd.func76 (by kernel_rfl) rfl
theorem ent_78 : Enters Tryd.prog 78 := enters_of Tryd.func78 (by kernel_rfl) rfl
theorem ent_79 : Enters Tryd.prog 79 := enters_of Tryd.func79 (by kernel_rfl) rfl
theorem ent_80 : Enters Tryd.prog 80 := enters_of Tryd.func80 (by kernel_rfl) rfl
theorem ent_81 : Enters Tryd.prog 81 := enters_of Tryd.func81 (by kernel_rfl) rfl
theorem ent_82 : Enters Tryd.prog 82 := enters_of Tryd.func82 (by kernel_rfl) rfl
theorem ent_83 : Enters Tryd.prog 83 := enters_of Tryd.func83 (by kernel_rfl) rfl
theorem ent_86 : Enters Tryd.prog 86 := enters_of Tryd.func86 (by kernel_rfl) rfl
theorem ent_90 : Enters Tryd.prog 90 := enters_of Tryd.func90 (by kernel_rfl) rfl
theorem ent_91 : Enters Tryd.prog 91 := enters_of Tryd.func91 (by kernel_rfl) rfl
theorem ent_92 : Enters Tryd.prog 92 := enters_of Tryd.func92 (by kernel_rfl) rfl
theorem ent_94 : Enters Tryd.prog 94 := enters_of Tryd.func94 (by kernel_rfl) rfl
theorem fld_117_0 : fieldB Tryd.prog 117 0 = some 0 := by kernel_rfl
theorem fld_117_1 : fieldB Tryd.prog 117 1 = some 1 := by kernel_rfl
theorem fld_25_0 : fieldB Tryd.prog 25 0 = some 0 := by kernel_rfl
theorem fld_25_1 : fieldB Tryd.prog 25 1 = some 1 := by kernel_rfl
theorem fld_46_0 : fieldB Tryd.prog 46 0 = some 0 := by kernel_rfl
theorem fld_46_1 : fieldB Tryd.prog 46 1 = some 1 := by kernel_rfl
theorem fld_73_1 : fieldB Tryd.prog 73 1 = some 2 := by kernel_rfl
theorem fld_73_2 : fieldB Tryd.prog 73 2 = some 3 := by kernel_rfl
theorem fld_95_0 : fieldB Tryd.prog 95 0 = some 0 := by kernel_rfl
theorem fld_95_1 : fieldB Tryd.prog 95 1 = some 1 := by kernel_rfl
theorem fld_95_2 : fieldB Tryd.prog 95 2 = some 2 := by kernel_rfl
theorem meth_129_pairworks_heap_suits (v : Value) (w : World) : (method (Tryd.prog.types.size + Made.depth) 129 v "pairworks/heap.suits").run Tryd.prog w = .ok (128, v) w := by kernel_rfl
theorem meth_131_pairworks_heap_suits (v : Value) (w : World) : (method (Tryd.prog.types.size + Made.depth) 131 v "pairworks/heap.suits").run Tryd.prog w = .ok (129, v) w := by kernel_rfl
theorem places_117 : placesB Tryd.prog 117 = some [(0, 1), (1, 1)] := by kernel_rfl
theorem places_118 : placesB Tryd.prog 118 = some [(0, 2), (2, 2)] := by kernel_rfl
theorem places_73 : placesB Tryd.prog 73 = some [(0, 2), (2, 1), (3, 1), (4, 1)] := by kernel_rfl
theorem places_95 : placesB Tryd.prog 95 = some [(0, 1), (1, 1), (2, 1)] := by kernel_rfl
theorem sl_22 : slB Tryd.prog 22 = some (46, 2) := by kernel_rfl
theorem sl_23 : slB Tryd.prog 23 = some (50, 3) := by kernel_rfl
theorem sl_44 : slB Tryd.prog 44 = some (9, 1) := by kernel_rfl
theorem sl_69 : slB Tryd.prog 69 = some (95, 3) := by kernel_rfl
theorem sl_70 : slB Tryd.prog 70 = some (68, 1) := by kernel_rfl
theorem ty_113 : tyB Tryd.prog 113 = some (false, 1) := by kernel_rfl
theorem ty_115 : tyB Tryd.prog 115 = some (false, 1) := by kernel_rfl
theorem ty_117 : tyB Tryd.prog 117 = some (true, 2) := by kernel_rfl
theorem ty_118 : tyB Tryd.prog 118 = some (true, 4) := by kernel_rfl
theorem ty_22 : tyB Tryd.prog 22 = some (false, 1) := by kernel_rfl
theorem ty_23 : tyB Tryd.prog 23 = some (false, 1) := by kernel_rfl
theorem ty_25 : tyB Tryd.prog 25 = some (true, 2) := by kernel_rfl
theorem ty_44 : tyB Tryd.prog 44 = some (false, 1) := by kernel_rfl
theorem ty_46 : tyB Tryd.prog 46 = some (true, 2) := by kernel_rfl
theorem ty_50 : tyB Tryd.prog 50 = some (true, 3) := by kernel_rfl
theorem ty_68 : tyB Tryd.prog 68 = some (false, 1) := by kernel_rfl
theorem ty_69 : tyB Tryd.prog 69 = some (false, 1) := by kernel_rfl
theorem ty_70 : tyB Tryd.prog 70 = some (false, 1) := by kernel_rfl
theorem ty_93 : tyB Tryd.prog 93 = some (false, 1) := by kernel_rfl
theorem ty_95 : tyB Tryd.prog 95 = some (true, 3) := by kernel_rfl
theorem zero_117 : zeroB Tryd.prog 117 = some [.nilIface, .nilFunc] := by kernel_rfl
theorem zero_118 : zeroB Tryd.prog 118 = some [.nilIface, .nilFunc, .nilIface, .nilFunc] := by kernel_rfl
theorem zero_3 : zeroB Tryd.prog 3 = some [.int .i64 0] := by kernel_rfl
theorem zero_46 : zeroB Tryd.prog 46 = some [.int .i64 0, .slice none 0 0] := by kernel_rfl
theorem zero_50 : zeroB Tryd.prog 50 = some [.int .i64 0, .string ⟨#[]⟩, .string ⟨#[]⟩] := by kernel_rfl
theorem zero_68 : zeroB Tryd.prog 68 = some [.int .u64 0] := by kernel_rfl
theorem zero_73 : zeroB Tryd.prog 73 = some [.slice none 0 0, .slice none 0 0, .slice none 0 0, .slice none 0 0, .map none] := by kernel_rfl
theorem zero_93 : zeroB Tryd.prog 93 = some [.nilFunc] := by kernel_rfl
theorem zero_95 : zeroB Tryd.prog 95 = some [.int .i64 0, .string ⟨#[]⟩, .string ⟨#[]⟩] := by kernel_rfl
end Go.Proofs.YtlhdalcipflblaaDoor
