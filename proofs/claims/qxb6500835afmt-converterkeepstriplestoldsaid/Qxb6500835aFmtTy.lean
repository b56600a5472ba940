/- closed facts on the types and functions, by program -/
import Derived.Test.Qxb6500835aFmtRows
import Derived.Test.Qxb6500835aFmtE14
import Derived.DeepKeys4
import Derived.Maps.Keyed
namespace Go.Proofs.Qxb6500835aFmt
open Go.E1
theorem ty_some : 0 < Tryf.prog.types.size := of_decide_eq_true (by kernel_rfl)
theorem ty_mixed : Tryf.prog.follows .mixedOrders = true := by kernel_rfl
theorem ty_agg43 : aggT Tryf.prog 43 = some 16 := by kernel_rfl
theorem ty_agg46 : aggT Tryf.prog 46 = some 2 := by kernel_rfl
theorem ty_agg55 : aggT Tryf.prog 55 = some 2 := by kernel_rfl
theorem ty_agg58 : aggT Tryf.prog 58 = some 2 := by kernel_rfl
theorem ty_agg65 : aggT Tryf.prog 65 = some 2 := by kernel_rfl
theorem ty_ar24 : arT Tryf.prog 24 = some (256, 21, 1) := by kernel_rfl
theorem ty_bool4 : Program.underlying Tryf.prog 4 = some .bool := by kernel_rfl
theorem ty_bytes3 : Program.bytesOf Tryf.prog 3 = 8 := by kernel_rfl
theorem ty_bytes43 : Program.bytesOf Tryf.prog 43 = 240 := by kernel_rfl
theorem ty_bytes44 : Program.bytesOf Tryf.prog 44 = 4 := by kernel_rfl
theorem ty_bytes46 : Program.bytesOf Tryf.prog 46 = 8 := by kernel_rfl
theorem ty_bytes5 : Program.bytesOf Tryf.prog 5 = 1 := by kernel_rfl
theorem ty_bytes55 : Program.bytesOf Tryf.prog 55 = 32 := by kernel_rfl
theorem ty_bytes67 : Program.bytesOf Tryf.prog 67 = 40 := by kernel_rfl
theorem ty_bytes70 : Program.bytesOf Tryf.prog 70 = 40 := by kernel_rfl
theorem ty_bytes72 : Program.bytesOf Tryf.prog 72 = 32 := by kernel_rfl
theorem ty_bytes97 : Program.bytesOf Tryf.prog 97 = 8 := by kernel_rfl
theorem ty_call10 : callT Tryf.prog 10 = true := by kernel_rfl
theorem ty_call11 : callT Tryf.prog 11 = true := by kernel_rfl
theorem ty_call12 : callT Tryf.prog 12 = true := by kernel_rfl
theorem ty_call4 : callT Tryf.prog 4 = true := by kernel_rfl
theorem ty_call5 : callT Tryf.prog 5 = true := by kernel_rfl
theorem ty_call6 : callT Tryf.prog 6 = true := by kernel_rfl
theorem ty_call8 : callT Tryf.prog 8 = true := by kernel_rfl
theorem ty_call9 : callT Tryf.prog 9 = true := by kernel_rfl
theorem ty_cells25 : Program.cellsOf Tryf.prog 25 = 1 := by kernel_rfl
theorem ty_cells3 : Program.cellsOf Tryf.prog 3 = 1 := by kernel_rfl
theorem ty_cells30 : Program.cellsOf Tryf.prog 30 = 1 := by kernel_rfl
theorem ty_cells31 : Program.cellsOf Tryf.prog 31 = 1 := by kernel_rfl
theorem ty_cells32 : Program.cellsOf Tryf.prog 32 = 1 := by kernel_rfl
theorem ty_cells33 : Program.cellsOf Tryf.prog 33 = 1 := by kernel_rfl
theorem ty_cells34 : Program.cellsOf Tryf.prog 34 = 1 := by kernel_rfl
theorem ty_cells35 : Program.cellsOf Tryf.prog 35 = 1 := by kernel_rfl
theorem ty_cells37 : Program.cellsOf Tryf.prog 37 = 2 := by kernel_rfl
theorem ty_cells38 : Program.cellsOf Tryf.prog 38 = 1 := by kernel_rfl
theorem ty_cells39 : Program.cellsOf Tryf.prog 39 = 1 := by kernel_rfl
theorem ty_cells4 : Program.cellsOf Tryf.prog 4 = 1 := by kernel_rfl
theorem ty_cells41 : Program.cellsOf Tryf.prog 41 = 4 := by kernel_rfl
theorem ty_cells43 : Program.cellsOf Tryf.prog 43 = 16 := by kernel_rfl
theorem ty_cells44 : Program.cellsOf Tryf.prog 44 = 1 := by kernel_rfl
theorem ty_cells46 : Program.cellsOf Tryf.prog 46 = 2 := by kernel_rfl
theorem ty_cells5 : Program.cellsOf Tryf.prog 5 = 1 := by kernel_rfl
theorem ty_cells53 : Program.cellsOf Tryf.prog 53 = 1 := by kernel_rfl
theorem ty_cells55 : Program.cellsOf Tryf.prog 55 = 2 := by kernel_rfl
theorem ty_cells60 : Program.cellsOf Tryf.prog 60 = 3 := by kernel_rfl
theorem ty_cells67 : Program.cellsOf Tryf.prog 67 = 3 := by kernel_rfl
theorem ty_cells68 : Program.cellsOf Tryf.prog 68 = 1 := by kernel_rfl
theorem ty_cells70 : Program.cellsOf Tryf.prog 70 = 2 := by kernel_rfl
theorem ty_cells72 : Program.cellsOf Tryf.prog 72 = 2 := by kernel_rfl
theorem ty_cells9 : Program.cellsOf Tryf.prog 9 = 1 := by kernel_rfl
theorem ty_cells97 : Program.cellsOf Tryf.prog 97 = 2 := by kernel_rfl
theorem ty_conc3 : concT Tryf.prog 3 = true := by kernel_rfl
theorem ty_conc78 : concT Tryf.prog 78 = true := by kernel_rfl
theorem ty_cv21_3 : convT Tryf.prog 21 3 = some .i64 := by kernel_rfl
theorem ty_cv3_21 : convT Tryf.prog 3 21 = some .i32 := by kernel_rfl
theorem ty_cv3_5 : convT Tryf.prog 3 5 = some .u8 := by kernel_rfl
theorem ty_cv44_3 : convT Tryf.prog 44 3 = some .i64 := by kernel_rfl
theorem ty_fld27_0 : fldOff Tryf.prog 27 0 = some 0 := by kernel_rfl
theorem ty_fld27_1 : fldOff Tryf.prog 27 1 = some 256 := by kernel_rfl
theorem ty_fld27_2 : fldOff Tryf.prog 27 2 = some 512 := by kernel_rfl
theorem ty_fld37_0 : fldOff Tryf.prog 37 0 = some 0 := by kernel_rfl
theorem ty_fld37_1 : fldOff Tryf.prog 37 1 = some 1 := by kernel_rfl
theorem ty_fld43_10 : fldOff Tryf.prog 43 10 = some 11 := by kernel_rfl
theorem ty_fld43_2 : fldOff Tryf.prog 43 2 = some 2 := by kernel_rfl
theorem ty_fld43_6 : fldOff Tryf.prog 43 6 = some 6 := by kernel_rfl
theorem ty_fld43_7 : fldOff Tryf.prog 43 7 = some 7 := by kernel_rfl
theorem ty_fld43_8 : fldOff Tryf.prog 43 8 = some 9 := by kernel_rfl
theorem ty_fld43_9 : fldOff Tryf.prog 43 9 = some 10 := by kernel_rfl
theorem ty_fld46_0 : fldOff Tryf.prog 46 0 = some 0 := by kernel_rfl
theorem ty_fld46_1 : fldOff Tryf.prog 46 1 = some 1 := by kernel_rfl
theorem ty_fld55_0 : fldOff Tryf.prog 55 0 = some 0 := by kernel_rfl
theorem ty_fld55_1 : fldOff Tryf.prog 55 1 = some 1 := by kernel_rfl
theorem ty_fld58_0 : fldOff Tryf.prog 58 0 = some 0 := by kernel_rfl
theorem ty_fld58_1 : fldOff Tryf.prog 58 1 = some 1 := by kernel_rfl
theorem ty_fld65_0 : fldOff Tryf.prog 65 0 = some 0 := by kernel_rfl
theorem ty_fld65_1 : fldOff Tryf.prog 65 1 = some 1 := by kernel_rfl
theorem ty_fld67_2 : fldOff Tryf.prog 67 2 = some 2 := by kernel_rfl
theorem ty_fld70_0 : fldOff Tryf.prog 70 0 = some 0 := by kernel_rfl
theorem ty_fld70_1 : fldOff Tryf.prog 70 1 = some 1 := by kernel_rfl
theorem ty_fld72_1 : fldOff Tryf.prog 72 1 = some 1 := by kernel_rfl
theorem ty_fs37 : fieldsT Tryf.prog 37 = some [(34, 0), (35, 1)] := by kernel_rfl
theorem ty_fs41 : fieldsT Tryf.prog 41 = some [(3, 0), (3, 1), (3, 2), (3, 3)] := by kernel_rfl
theorem ty_fs43 : fieldsT Tryf.prog 43 = some [(30, 0), (31, 1), (32, 2), (4, 3), (3, 4), (3, 5), (33, 6), (37, 7), (38, 9), (25, 10), (39, 11), (41, 12)] := by kernel_rfl
theorem ty_fs46 : fieldsT Tryf.prog 46 = some [(44, 0), (5, 1)] := by kernel_rfl
theorem ty_fs55 : fieldsT Tryf.prog 55 = some [(5, 0), (53, 1)] := by kernel_rfl
theorem ty_fs67 : fieldsT Tryf.prog 67 = some [(31, 0), (44, 1), (32, 2)] := by kernel_rfl
theorem ty_fs70 : fieldsT Tryf.prog 70 = some [(9, 0), (68, 1)] := by kernel_rfl
theorem ty_fs72 : fieldsT Tryf.prog 72 = some [(31, 0), (32, 1)] := by kernel_rfl
theorem ty_ifc48 : ifcT Tryf.prog 48 = true := by kernel_rfl
theorem ty_kb46 : KB Tryf.prog 46 (keyGood Tryf.prog 46) := KB.of_keyed (Maps.Keyed.of_law (deep_law_laid (by kernel_rfl) (m := 50) (by omega) (of_decide_eq_true (by kernel_rfl)) (by kernel_rfl) (by kernel_rfl)))
theorem ty_kb60 : KB Tryf.prog 60 (keyGood Tryf.prog 60) := KB.of_keyed (Maps.Keyed.of_law (deep_law_laid (by kernel_rfl) (m := 50) (by omega) (of_decide_eq_true (by kernel_rfl)) (by kernel_rfl) (by kernel_rfl)))
theorem ty_kf46 : keyFs Tryf.prog 46 = some [(44, 0), (5, 1)] := by kernel_rfl
theorem ty_kf60 : keyFs Tryf.prog 60 = some [(9, 0), (44, 1), (5, 2)] := by kernel_rfl
theorem ty_mk25 : mkT Tryf.prog 25 = some (46, 2, 8) := by kernel_rfl
theorem ty_mk28 : mkT Tryf.prog 28 = some (58, 2, 40) := by kernel_rfl
theorem ty_mk39 : mkT Tryf.prog 39 = some (55, 2, 32) := by kernel_rfl
theorem ty_mk53 : mkT Tryf.prog 53 = some (44, 1, 4) := by kernel_rfl
theorem ty_mk61 : mkT Tryf.prog 61 = some (65, 2, 40) := by kernel_rfl
theorem ty_mp29 : mpT Tryf.prog 29 = some (60, 3) := by kernel_rfl
theorem ty_mp51 : mpT Tryf.prog 51 = some (46, 3) := by kernel_rfl
theorem ty_one21 : oneT Tryf.prog 21 = true := by kernel_rfl
theorem ty_one25 : oneT Tryf.prog 25 = true := by kernel_rfl
theorem ty_one32 : oneT Tryf.prog 32 = true := by kernel_rfl
theorem ty_one33 : oneT Tryf.prog 33 = true := by kernel_rfl
theorem ty_one34 : oneT Tryf.prog 34 = true := by kernel_rfl
theorem ty_one35 : oneT Tryf.prog 35 = true := by kernel_rfl
theorem ty_one38 : oneT Tryf.prog 38 = true := by kernel_rfl
theorem ty_one39 : oneT Tryf.prog 39 = true := by kernel_rfl
theorem ty_one44 : oneT Tryf.prog 44 = true := by kernel_rfl
theorem ty_one5 : oneT Tryf.prog 5 = true := by kernel_rfl
theorem ty_one53 : oneT Tryf.prog 53 = true := by kernel_rfl
theorem ty_one68 : oneT Tryf.prog 68 = true := by kernel_rfl
theorem ty_one9 : oneT Tryf.prog 9 = true := by kernel_rfl
theorem ty_pl46 : plT Tryf.prog 46 = some [(0, 1), (1, 1)] := by kernel_rfl
theorem ty_pl55 : plT Tryf.prog 55 = some [(0, 1), (1, 1)] := by kernel_rfl
theorem ty_pl58 : plT Tryf.prog 58 = some [(0, 1), (1, 1)] := by kernel_rfl
theorem ty_pl60 : plT Tryf.prog 60 = some [(0, 1), (1, 1), (2, 1)] := by kernel_rfl
theorem ty_pl65 : plT Tryf.prog 65 = some [(0, 1), (1, 1)] := by kernel_rfl
theorem ty_pl77 : plT Tryf.prog 77 = some [(0, 1), (1, 1), (2, 1)] := by kernel_rfl
theorem ty_sl22 : slT Tryf.prog 22 = some (43, 16) := by kernel_rfl
theorem ty_sl25 : slT Tryf.prog 25 = some (46, 2) := by kernel_rfl
theorem ty_sl28 : slT Tryf.prog 28 = some (58, 2) := by kernel_rfl
theorem ty_sl34 : slT Tryf.prog 34 = some (67, 3) := by kernel_rfl
theorem ty_sl35 : slT Tryf.prog 35 = some (70, 2) := by kernel_rfl
theorem ty_sl38 : slT Tryf.prog 38 = some (72, 2) := by kernel_rfl
theorem ty_sl39 : slT Tryf.prog 39 = some (55, 2) := by kernel_rfl
theorem ty_sl53 : slT Tryf.prog 53 = some (44, 1) := by kernel_rfl
theorem ty_sl61 : slT Tryf.prog 61 = some (65, 2) := by kernel_rfl
theorem ty_sl95 : slT Tryf.prog 95 = some (20, 1) := by kernel_rfl
theorem ty_uint3 : Program.underlying Tryf.prog 3 = some (.int .i64) := by kernel_rfl
theorem ty_uint30 : Program.underlying Tryf.prog 30 = some (.int .i64) := by kernel_rfl
theorem ty_uint31 : Program.underlying Tryf.prog 31 = some (.int .u64) := by kernel_rfl
theorem ty_uint44 : Program.underlying Tryf.prog 44 = some (.int .u32) := by kernel_rfl
theorem ty_uint5 : Program.underlying Tryf.prog 5 = some (.int .u8) := by kernel_rfl
theorem ty_usl22 : Program.underlying Tryf.prog 22 = some (.slice 43) := by kernel_rfl
theorem ty_usl25 : Program.underlying Tryf.prog 25 = some (.slice 46) := by kernel_rfl
theorem ty_usl28 : Program.underlying Tryf.prog 28 = some (.slice 58) := by kernel_rfl
theorem ty_usl32 : Program.underlying Tryf.prog 32 = some (.slice 5) := by kernel_rfl
theorem ty_usl33 : Program.underlying Tryf.prog 33 = some (.slice 3) := by kernel_rfl
theorem ty_usl34 : Program.underlying Tryf.prog 34 = some (.slice 67) := by kernel_rfl
theorem ty_usl35 : Program.underlying Tryf.prog 35 = some (.slice 70) := by kernel_rfl
theorem ty_usl38 : Program.underlying Tryf.prog 38 = some (.slice 72) := by kernel_rfl
theorem ty_usl39 : Program.underlying Tryf.prog 39 = some (.slice 55) := by kernel_rfl
theorem ty_usl53 : Program.underlying Tryf.prog 53 = some (.slice 44) := by kernel_rfl
theorem ty_usl61 : Program.underlying Tryf.prog 61 = some (.slice 65) := by kernel_rfl
theorem ty_usl68 : Program.underlying Tryf.prog 68 = some (.slice 97) := by kernel_rfl
theorem ty_ustr9 : Program.underlying Tryf.prog 9 = some .string := by kernel_rfl
theorem ty_z13 : zero1 Tryf.prog 3 = some (.int .i64 0) := by kernel_rfl
theorem ty_zero20 : zeroL Tryf.prog 20 = some [.nilIface] := by kernel_rfl
theorem ty_zero43 : zeroL Tryf.prog 43 = some [.int .i64 0, .int .u64 0, .slice none 0 0, .bool false, .int .i64 0, .int .i64 0, .slice none 0 0, .slice none 0 0, .slice none 0 0, .slice none 0 0, .slice none 0 0, .slice none 0 0, .int .i64 0, .int .i64 0, .int .i64 0, .int .i64 0] := by kernel_rfl
theorem ty_zero44 : zeroL Tryf.prog 44 = some [.int .u32 0] := by kernel_rfl
theorem ty_zero46 : zeroL Tryf.prog 46 = some [.int .u32 0, .int .u8 0] := by kernel_rfl
theorem ty_zero55 : zeroL Tryf.prog 55 = some [.int .u8 0, .slice none 0 0] := by kernel_rfl
theorem ty_zero58 : zeroL Tryf.prog 58 = some [.string ⟨#[]⟩, .slice none 0 0] := by kernel_rfl
theorem ty_zero60 : zeroL Tryf.prog 60 = some [.string ⟨#[]⟩, .int .u32 0, .int .u8 0] := by kernel_rfl
theorem ty_zero65 : zeroL Tryf.prog 65 = some [.string ⟨#[]⟩, .slice none 0 0] := by kernel_rfl
theorem ty_zero77 : zeroL Tryf.prog 77 = some [.string ⟨#[]⟩, .int .i64 0, .int .i64 0] := by kernel_rfl
end Go.Proofs.Qxb6500835aFmt
