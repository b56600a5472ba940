/- closed facts on the types and functions, by program -/
import Derived.Test.Qxb6500835aRows
import Derived.Test.Qxb6500835aE16
import Derived.DeepKeys4
import Derived.Maps.Keyed
namespace Go.Proofs.Qxb6500835a
open Go.E1
theorem ty_some : 0 < Try.prog.types.size := of_decide_eq_true (by kernel_rfl)
theorem ty_mixed : Try.prog.follows .mixedOrders = true := by kernel_rfl
theorem ty_agg41 : aggT Try.prog 41 = some 16 := by kernel_rfl
theorem ty_agg60 : aggT Try.prog 60 = some 2 := by kernel_rfl
theorem ty_agg63 : aggT Try.prog 63 = some 2 := by kernel_rfl
theorem ty_agg67 : aggT Try.prog 67 = some 2 := by kernel_rfl
theorem ty_ar24 : arT Try.prog 24 = some (256, 21, 1) := by kernel_rfl
theorem ty_bool4 : Program.underlying Try.prog 4 = some .bool := by kernel_rfl
theorem ty_bytes3 : Program.bytesOf Try.prog 3 = 8 := by kernel_rfl
theorem ty_bytes41 : Program.bytesOf Try.prog 41 = 240 := by kernel_rfl
theorem ty_bytes5 : Program.bytesOf Try.prog 5 = 1 := by kernel_rfl
theorem ty_bytes50 : Program.bytesOf Try.prog 50 = 4 := by kernel_rfl
theorem ty_bytes52 : Program.bytesOf Try.prog 52 = 40 := by kernel_rfl
theorem ty_bytes55 : Program.bytesOf Try.prog 55 = 40 := by kernel_rfl
theorem ty_bytes57 : Program.bytesOf Try.prog 57 = 32 := by kernel_rfl
theorem ty_bytes60 : Program.bytesOf Try.prog 60 = 32 := by kernel_rfl
theorem ty_bytes63 : Program.bytesOf Try.prog 63 = 8 := by kernel_rfl
theorem ty_bytes97 : Program.bytesOf Try.prog 97 = 8 := by kernel_rfl
theorem ty_call10 : callT Try.prog 10 = true := by kernel_rfl
theorem ty_call11 : callT Try.prog 11 = true := by kernel_rfl
theorem ty_call12 : callT Try.prog 12 = true := by kernel_rfl
theorem ty_call13 : callT Try.prog 13 = true := by kernel_rfl
theorem ty_call14 : callT Try.prog 14 = true := by kernel_rfl
theorem ty_call15 : callT Try.prog 15 = true := by kernel_rfl
theorem ty_call16 : callT Try.prog 16 = true := by kernel_rfl
theorem ty_call17 : callT Try.prog 17 = true := by kernel_rfl
theorem ty_call18 : callT Try.prog 18 = true := by kernel_rfl
theorem ty_call19 : callT Try.prog 19 = true := by kernel_rfl
theorem ty_call20 : callT Try.prog 20 = true := by kernel_rfl
theorem ty_call21 : callT Try.prog 21 = true := by kernel_rfl
theorem ty_call4 : callT Try.prog 4 = true := by kernel_rfl
theorem ty_call5 : callT Try.prog 5 = true := by kernel_rfl
theorem ty_call6 : callT Try.prog 6 = true := by kernel_rfl
theorem ty_call7 : callT Try.prog 7 = true := by kernel_rfl
theorem ty_call8 : callT Try.prog 8 = true := by kernel_rfl
theorem ty_call9 : callT Try.prog 9 = true := by kernel_rfl
theorem ty_cells25 : Program.cellsOf Try.prog 25 = 1 := by kernel_rfl
theorem ty_cells28 : Program.cellsOf Try.prog 28 = 1 := by kernel_rfl
theorem ty_cells29 : Program.cellsOf Try.prog 29 = 1 := by kernel_rfl
theorem ty_cells3 : Program.cellsOf Try.prog 3 = 1 := by kernel_rfl
theorem ty_cells30 : Program.cellsOf Try.prog 30 = 1 := by kernel_rfl
theorem ty_cells31 : Program.cellsOf Try.prog 31 = 1 := by kernel_rfl
theorem ty_cells32 : Program.cellsOf Try.prog 32 = 1 := by kernel_rfl
theorem ty_cells33 : Program.cellsOf Try.prog 33 = 1 := by kernel_rfl
theorem ty_cells35 : Program.cellsOf Try.prog 35 = 2 := by kernel_rfl
theorem ty_cells36 : Program.cellsOf Try.prog 36 = 1 := by kernel_rfl
theorem ty_cells37 : Program.cellsOf Try.prog 37 = 1 := by kernel_rfl
theorem ty_cells39 : Program.cellsOf Try.prog 39 = 4 := by kernel_rfl
theorem ty_cells4 : Program.cellsOf Try.prog 4 = 1 := by kernel_rfl
theorem ty_cells41 : Program.cellsOf Try.prog 41 = 16 := by kernel_rfl
theorem ty_cells5 : Program.cellsOf Try.prog 5 = 1 := by kernel_rfl
theorem ty_cells50 : Program.cellsOf Try.prog 50 = 1 := by kernel_rfl
theorem ty_cells52 : Program.cellsOf Try.prog 52 = 3 := by kernel_rfl
theorem ty_cells53 : Program.cellsOf Try.prog 53 = 1 := by kernel_rfl
theorem ty_cells55 : Program.cellsOf Try.prog 55 = 2 := by kernel_rfl
theorem ty_cells57 : Program.cellsOf Try.prog 57 = 2 := by kernel_rfl
theorem ty_cells58 : Program.cellsOf Try.prog 58 = 1 := by kernel_rfl
theorem ty_cells60 : Program.cellsOf Try.prog 60 = 2 := by kernel_rfl
theorem ty_cells63 : Program.cellsOf Try.prog 63 = 2 := by kernel_rfl
theorem ty_cells9 : Program.cellsOf Try.prog 9 = 1 := by kernel_rfl
theorem ty_cells97 : Program.cellsOf Try.prog 97 = 2 := by kernel_rfl
theorem ty_conc75 : concT Try.prog 75 = true := by kernel_rfl
theorem ty_cv21_3 : convT Try.prog 21 3 = some .i64 := by kernel_rfl
theorem ty_cv3_21 : convT Try.prog 3 21 = some .i32 := by kernel_rfl
theorem ty_cv3_5 : convT Try.prog 3 5 = some .u8 := by kernel_rfl
theorem ty_cv50_3 : convT Try.prog 50 3 = some .i64 := by kernel_rfl
theorem ty_eqg63 : Try.prog.eqGuardType Try.prog.depth 63 = false := by kernel_rfl
theorem ty_fld27_0 : fldOff Try.prog 27 0 = some 0 := by kernel_rfl
theorem ty_fld27_1 : fldOff Try.prog 27 1 = some 256 := by kernel_rfl
theorem ty_fld27_2 : fldOff Try.prog 27 2 = some 512 := by kernel_rfl
theorem ty_fld35_0 : fldOff Try.prog 35 0 = some 0 := by kernel_rfl
theorem ty_fld35_1 : fldOff Try.prog 35 1 = some 1 := by kernel_rfl
theorem ty_fld41_10 : fldOff Try.prog 41 10 = some 11 := by kernel_rfl
theorem ty_fld41_2 : fldOff Try.prog 41 2 = some 2 := by kernel_rfl
theorem ty_fld41_6 : fldOff Try.prog 41 6 = some 6 := by kernel_rfl
theorem ty_fld41_7 : fldOff Try.prog 41 7 = some 7 := by kernel_rfl
theorem ty_fld41_8 : fldOff Try.prog 41 8 = some 9 := by kernel_rfl
theorem ty_fld41_9 : fldOff Try.prog 41 9 = some 10 := by kernel_rfl
theorem ty_fld52_2 : fldOff Try.prog 52 2 = some 2 := by kernel_rfl
theorem ty_fld55_0 : fldOff Try.prog 55 0 = some 0 := by kernel_rfl
theorem ty_fld55_1 : fldOff Try.prog 55 1 = some 1 := by kernel_rfl
theorem ty_fld57_1 : fldOff Try.prog 57 1 = some 1 := by kernel_rfl
theorem ty_fld60_0 : fldOff Try.prog 60 0 = some 0 := by kernel_rfl
theorem ty_fld60_1 : fldOff Try.prog 60 1 = some 1 := by kernel_rfl
theorem ty_fld63_0 : fldOff Try.prog 63 0 = some 0 := by kernel_rfl
theorem ty_fld63_1 : fldOff Try.prog 63 1 = some 1 := by kernel_rfl
theorem ty_fld67_0 : fldOff Try.prog 67 0 = some 0 := by kernel_rfl
theorem ty_fld67_1 : fldOff Try.prog 67 1 = some 1 := by kernel_rfl
theorem ty_fld80_0 : fldOff Try.prog 80 0 = some 0 := by kernel_rfl
theorem ty_fld80_1 : fldOff Try.prog 80 1 = some 1 := by kernel_rfl
theorem ty_fs35 : fieldsT Try.prog 35 = some [(32, 0), (33, 1)] := by kernel_rfl
theorem ty_fs39 : fieldsT Try.prog 39 = some [(3, 0), (3, 1), (3, 2), (3, 3)] := by kernel_rfl
theorem ty_fs41 : fieldsT Try.prog 41 = some [(28, 0), (29, 1), (30, 2), (4, 3), (3, 4), (3, 5), (31, 6), (35, 7), (36, 9), (25, 10), (37, 11), (39, 12)] := by kernel_rfl
theorem ty_fs52 : fieldsT Try.prog 52 = some [(29, 0), (50, 1), (30, 2)] := by kernel_rfl
theorem ty_fs55 : fieldsT Try.prog 55 = some [(9, 0), (53, 1)] := by kernel_rfl
theorem ty_fs57 : fieldsT Try.prog 57 = some [(29, 0), (30, 1)] := by kernel_rfl
theorem ty_fs60 : fieldsT Try.prog 60 = some [(5, 0), (58, 1)] := by kernel_rfl
theorem ty_fs63 : fieldsT Try.prog 63 = some [(50, 0), (5, 1)] := by kernel_rfl
theorem ty_ifc43 : ifcT Try.prog 43 = true := by kernel_rfl
theorem ty_kf63 : keyFs Try.prog 63 = some [(50, 0), (5, 1)] := by kernel_rfl
theorem ty_mk25 : mkT Try.prog 25 = some (63, 2, 8) := by kernel_rfl
theorem ty_mk37 : mkT Try.prog 37 = some (60, 2, 32) := by kernel_rfl
theorem ty_mk58 : mkT Try.prog 58 = some (50, 1, 4) := by kernel_rfl
theorem ty_mk78 : mkT Try.prog 78 = some (67, 2, 16) := by kernel_rfl
theorem ty_one21 : oneT Try.prog 21 = true := by kernel_rfl
theorem ty_one25 : oneT Try.prog 25 = true := by kernel_rfl
theorem ty_one3 : oneT Try.prog 3 = true := by kernel_rfl
theorem ty_one30 : oneT Try.prog 30 = true := by kernel_rfl
theorem ty_one31 : oneT Try.prog 31 = true := by kernel_rfl
theorem ty_one32 : oneT Try.prog 32 = true := by kernel_rfl
theorem ty_one33 : oneT Try.prog 33 = true := by kernel_rfl
theorem ty_one36 : oneT Try.prog 36 = true := by kernel_rfl
theorem ty_one37 : oneT Try.prog 37 = true := by kernel_rfl
theorem ty_one5 : oneT Try.prog 5 = true := by kernel_rfl
theorem ty_one50 : oneT Try.prog 50 = true := by kernel_rfl
theorem ty_one53 : oneT Try.prog 53 = true := by kernel_rfl
theorem ty_one58 : oneT Try.prog 58 = true := by kernel_rfl
theorem ty_one68 : oneT Try.prog 68 = true := by kernel_rfl
theorem ty_one71 : oneT Try.prog 71 = true := by kernel_rfl
theorem ty_one78 : oneT Try.prog 78 = true := by kernel_rfl
theorem ty_one9 : oneT Try.prog 9 = true := by kernel_rfl
theorem ty_pl60 : plT Try.prog 60 = some [(0, 1), (1, 1)] := by kernel_rfl
theorem ty_pl63 : plT Try.prog 63 = some [(0, 1), (1, 1)] := by kernel_rfl
theorem ty_pl67 : plT Try.prog 67 = some [(0, 1), (1, 1)] := by kernel_rfl
theorem ty_pl77 : plT Try.prog 77 = some [(0, 1), (1, 1), (2, 1)] := by kernel_rfl
theorem ty_pl80 : plT Try.prog 80 = some [(0, 1), (1, 1)] := by kernel_rfl
theorem ty_sl22 : slT Try.prog 22 = some (41, 16) := by kernel_rfl
theorem ty_sl25 : slT Try.prog 25 = some (63, 2) := by kernel_rfl
theorem ty_sl32 : slT Try.prog 32 = some (52, 3) := by kernel_rfl
theorem ty_sl33 : slT Try.prog 33 = some (55, 2) := by kernel_rfl
theorem ty_sl36 : slT Try.prog 36 = some (57, 2) := by kernel_rfl
theorem ty_sl37 : slT Try.prog 37 = some (60, 2) := by kernel_rfl
theorem ty_sl58 : slT Try.prog 58 = some (50, 1) := by kernel_rfl
theorem ty_sl78 : slT Try.prog 78 = some (67, 2) := by kernel_rfl
theorem ty_st263 : st2T Try.prog 63 = some (.u32, .u8) := by kernel_rfl
theorem ty_uint28 : Program.underlying Try.prog 28 = some (.int .i64) := by kernel_rfl
theorem ty_uint29 : Program.underlying Try.prog 29 = some (.int .u64) := by kernel_rfl
theorem ty_uint3 : Program.underlying Try.prog 3 = some (.int .i64) := by kernel_rfl
theorem ty_uint5 : Program.underlying Try.prog 5 = some (.int .u8) := by kernel_rfl
theorem ty_uint50 : Program.underlying Try.prog 50 = some (.int .u32) := by kernel_rfl
theorem ty_usl22 : Program.underlying Try.prog 22 = some (.slice 41) := by kernel_rfl
theorem ty_usl25 : Program.underlying Try.prog 25 = some (.slice 63) := by kernel_rfl
theorem ty_usl30 : Program.underlying Try.prog 30 = some (.slice 5) := by kernel_rfl
theorem ty_usl31 : Program.underlying Try.prog 31 = some (.slice 3) := by kernel_rfl
theorem ty_usl32 : Program.underlying Try.prog 32 = some (.slice 52) := by kernel_rfl
theorem ty_usl33 : Program.underlying Try.prog 33 = some (.slice 55) := by kernel_rfl
theorem ty_usl36 : Program.underlying Try.prog 36 = some (.slice 57) := by kernel_rfl
theorem ty_usl37 : Program.underlying Try.prog 37 = some (.slice 60) := by kernel_rfl
theorem ty_usl53 : Program.underlying Try.prog 53 = some (.slice 97) := by kernel_rfl
theorem ty_usl58 : Program.underlying Try.prog 58 = some (.slice 50) := by kernel_rfl
theorem ty_usl78 : Program.underlying Try.prog 78 = some (.slice 67) := by kernel_rfl
theorem ty_ustr9 : Program.underlying Try.prog 9 = some .string := by kernel_rfl
theorem ty_zero41 : zeroL Try.prog 41 = some [.int .i64 0, .int .u64 0, .slice none 0 0, .bool false, .int .i64 0, .int .i64 0, .slice none 0 0, .slice none 0 0, .slice none 0 0, .slice none 0 0, .slice none 0 0, .slice none 0 0, .int .i64 0, .int .i64 0, .int .i64 0, .int .i64 0] := by kernel_rfl
theorem ty_zero50 : zeroL Try.prog 50 = some [.int .u32 0] := by kernel_rfl
theorem ty_zero60 : zeroL Try.prog 60 = some [.int .u8 0, .slice none 0 0] := by kernel_rfl
theorem ty_zero63 : zeroL Try.prog 63 = some [.int .u32 0, .int .u8 0] := by kernel_rfl
theorem ty_zero67 : zeroL Try.prog 67 = some [.int .i64 0, .int .i64 0] := by kernel_rfl
theorem ty_zero68 : zeroL Try.prog 68 = some [.nilFunc] := by kernel_rfl
theorem ty_zero77 : zeroL Try.prog 77 = some [.string ⟨#[]⟩, .int .i64 0, .int .i64 0] := by kernel_rfl
theorem ty_zero80 : zeroL Try.prog 80 = some [.slice none 0 0, .nilFunc] := by kernel_rfl
end Go.Proofs.Qxb6500835a
