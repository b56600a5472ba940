/- closed facts on the types and functions, by program -/
import Derived.Test.Qxb6500841aDoorRows
import Derived.Test.Qxb6500841aDoorE20
import Derived.DeepKeys4
import Derived.Maps.Keyed
namespace Go.Proofs.Qxb6500841aDoor
open Go.E1
theorem ty_some : 0 < Tryd.prog.types.size := of_decide_eq_true (by kernel_rfl)
theorem ty_mixed : Tryd.prog.follows .mixedOrders = true := by kernel_rfl
theorem ty_agg32 : aggT Tryd.prog 32 = some 13 := by kernel_rfl
theorem ty_agg34 : aggT Tryd.prog 34 = some 4 := by kernel_rfl
theorem ty_agg36 : aggT Tryd.prog 36 = some 17 := by kernel_rfl
theorem ty_agg39 : aggT Tryd.prog 39 = some 10 := by kernel_rfl
theorem ty_agg41 : aggT Tryd.prog 41 = some 21 := by kernel_rfl
theorem ty_agg43 : aggT Tryd.prog 43 = some 64 := by kernel_rfl
theorem ty_agg45 : aggT Tryd.prog 45 = some 68 := by kernel_rfl
theorem ty_agg83 : aggT Tryd.prog 83 = some 0 := by kernel_rfl
theorem ty_ar29 : arT Tryd.prog 29 = some (6, 5, 1) := by kernel_rfl
theorem ty_ar34 : arT Tryd.prog 34 = some (4, 5, 1) := by kernel_rfl
theorem ty_bool4 : Program.underlying Tryd.prog 4 = some .bool := by kernel_rfl
theorem ty_bytes45 : Program.bytesOf Tryd.prog 45 = 256 := by kernel_rfl
theorem ty_bytes5 : Program.bytesOf Tryd.prog 5 = 1 := by kernel_rfl
theorem ty_call10 : callT Tryd.prog 10 = true := by kernel_rfl
theorem ty_call11 : callT Tryd.prog 11 = true := by kernel_rfl
theorem ty_call12 : callT Tryd.prog 12 = true := by kernel_rfl
theorem ty_call13 : callT Tryd.prog 13 = true := by kernel_rfl
theorem ty_call14 : callT Tryd.prog 14 = true := by kernel_rfl
theorem ty_call15 : callT Tryd.prog 15 = true := by kernel_rfl
theorem ty_call16 : callT Tryd.prog 16 = true := by kernel_rfl
theorem ty_call17 : callT Tryd.prog 17 = true := by kernel_rfl
theorem ty_call18 : callT Tryd.prog 18 = true := by kernel_rfl
theorem ty_call19 : callT Tryd.prog 19 = true := by kernel_rfl
theorem ty_call20 : callT Tryd.prog 20 = true := by kernel_rfl
theorem ty_call26 : callT Tryd.prog 26 = true := by kernel_rfl
theorem ty_call27 : callT Tryd.prog 27 = true := by kernel_rfl
theorem ty_call28 : callT Tryd.prog 28 = true := by kernel_rfl
theorem ty_call29 : callT Tryd.prog 29 = true := by kernel_rfl
theorem ty_call30 : callT Tryd.prog 30 = true := by kernel_rfl
theorem ty_call31 : callT Tryd.prog 31 = true := by kernel_rfl
theorem ty_call32 : callT Tryd.prog 32 = true := by kernel_rfl
theorem ty_call33 : callT Tryd.prog 33 = true := by kernel_rfl
theorem ty_call34 : callT Tryd.prog 34 = true := by kernel_rfl
theorem ty_call35 : callT Tryd.prog 35 = true := by kernel_rfl
theorem ty_call36 : callT Tryd.prog 36 = true := by kernel_rfl
theorem ty_call37 : callT Tryd.prog 37 = true := by kernel_rfl
theorem ty_call38 : callT Tryd.prog 38 = true := by kernel_rfl
theorem ty_call39 : callT Tryd.prog 39 = true := by kernel_rfl
theorem ty_call40 : callT Tryd.prog 40 = true := by kernel_rfl
theorem ty_call41 : callT Tryd.prog 41 = true := by kernel_rfl
theorem ty_call42 : callT Tryd.prog 42 = true := by kernel_rfl
theorem ty_call43 : callT Tryd.prog 43 = true := by kernel_rfl
theorem ty_call44 : callT Tryd.prog 44 = true := by kernel_rfl
theorem ty_call46 : callT Tryd.prog 46 = true := by kernel_rfl
theorem ty_call47 : callT Tryd.prog 47 = true := by kernel_rfl
theorem ty_call48 : callT Tryd.prog 48 = true := by kernel_rfl
theorem ty_call49 : callT Tryd.prog 49 = true := by kernel_rfl
theorem ty_call50 : callT Tryd.prog 50 = true := by kernel_rfl
theorem ty_call51 : callT Tryd.prog 51 = true := by kernel_rfl
theorem ty_call52 : callT Tryd.prog 52 = true := by kernel_rfl
theorem ty_call53 : callT Tryd.prog 53 = true := by kernel_rfl
theorem ty_call54 : callT Tryd.prog 54 = true := by kernel_rfl
theorem ty_call55 : callT Tryd.prog 55 = true := by kernel_rfl
theorem ty_call56 : callT Tryd.prog 56 = true := by kernel_rfl
theorem ty_call57 : callT Tryd.prog 57 = true := by kernel_rfl
theorem ty_call58 : callT Tryd.prog 58 = true := by kernel_rfl
theorem ty_call59 : callT Tryd.prog 59 = true := by kernel_rfl
theorem ty_call67 : callT Tryd.prog 67 = true := by kernel_rfl
theorem ty_call68 : callT Tryd.prog 68 = true := by kernel_rfl
theorem ty_call69 : callT Tryd.prog 69 = true := by kernel_rfl
theorem ty_call7 : callT Tryd.prog 7 = true := by kernel_rfl
theorem ty_call70 : callT Tryd.prog 70 = true := by kernel_rfl
theorem ty_call71 : callT Tryd.prog 71 = true := by kernel_rfl
theorem ty_call72 : callT Tryd.prog 72 = true := by kernel_rfl
theorem ty_call73 : callT Tryd.prog 73 = true := by kernel_rfl
theorem ty_call74 : callT Tryd.prog 74 = true := by kernel_rfl
theorem ty_call75 : callT Tryd.prog 75 = true := by kernel_rfl
theorem ty_call76 : callT Tryd.prog 76 = true := by kernel_rfl
theorem ty_call77 : callT Tryd.prog 77 = true := by kernel_rfl
theorem ty_call78 : callT Tryd.prog 78 = true := by kernel_rfl
theorem ty_call79 : callT Tryd.prog 79 = true := by kernel_rfl
theorem ty_call8 : callT Tryd.prog 8 = true := by kernel_rfl
theorem ty_call9 : callT Tryd.prog 9 = true := by kernel_rfl
theorem ty_cells45 : Program.cellsOf Tryd.prog 45 = 68 := by kernel_rfl
theorem ty_cells5 : Program.cellsOf Tryd.prog 5 = 1 := by kernel_rfl
theorem ty_cv3_30 : convT Tryd.prog 3 30 = some .u16 := by kernel_rfl
theorem ty_cv30_3 : convT Tryd.prog 30 3 = some .i64 := by kernel_rfl
theorem ty_cv30_5 : convT Tryd.prog 30 5 = some .u8 := by kernel_rfl
theorem ty_cv30_81 : convT Tryd.prog 30 81 = some .u64 := by kernel_rfl
theorem ty_cv37_3 : convT Tryd.prog 37 3 = some .i64 := by kernel_rfl
theorem ty_cv37_5 : convT Tryd.prog 37 5 = some .u8 := by kernel_rfl
theorem ty_cv37_81 : convT Tryd.prog 37 81 = some .u64 := by kernel_rfl
theorem ty_cv5_3 : convT Tryd.prog 5 3 = some .i64 := by kernel_rfl
theorem ty_cv5_30 : convT Tryd.prog 5 30 = some .u16 := by kernel_rfl
theorem ty_cv5_37 : convT Tryd.prog 5 37 = some .u32 := by kernel_rfl
theorem ty_cv5_81 : convT Tryd.prog 5 81 = some .u64 := by kernel_rfl
theorem ty_cv81_30 : convT Tryd.prog 81 30 = some .u16 := by kernel_rfl
theorem ty_eqg34 : Tryd.prog.eqGuardType Tryd.prog.depth 34 = false := by kernel_rfl
theorem ty_fld32_0 : fldOff Tryd.prog 32 0 = some 0 := by kernel_rfl
theorem ty_fld32_1 : fldOff Tryd.prog 32 1 = some 6 := by kernel_rfl
theorem ty_fld32_2 : fldOff Tryd.prog 32 2 = some 12 := by kernel_rfl
theorem ty_fld36_0 : fldOff Tryd.prog 36 0 = some 0 := by kernel_rfl
theorem ty_fld36_1 : fldOff Tryd.prog 36 1 = some 1 := by kernel_rfl
theorem ty_fld36_10 : fldOff Tryd.prog 36 10 = some 16 := by kernel_rfl
theorem ty_fld36_2 : fldOff Tryd.prog 36 2 = some 2 := by kernel_rfl
theorem ty_fld36_3 : fldOff Tryd.prog 36 3 = some 3 := by kernel_rfl
theorem ty_fld36_4 : fldOff Tryd.prog 36 4 = some 4 := by kernel_rfl
theorem ty_fld36_5 : fldOff Tryd.prog 36 5 = some 5 := by kernel_rfl
theorem ty_fld36_6 : fldOff Tryd.prog 36 6 = some 6 := by kernel_rfl
theorem ty_fld36_7 : fldOff Tryd.prog 36 7 = some 7 := by kernel_rfl
theorem ty_fld36_8 : fldOff Tryd.prog 36 8 = some 8 := by kernel_rfl
theorem ty_fld36_9 : fldOff Tryd.prog 36 9 = some 12 := by kernel_rfl
theorem ty_fld39_0 : fldOff Tryd.prog 39 0 = some 0 := by kernel_rfl
theorem ty_fld39_1 : fldOff Tryd.prog 39 1 = some 1 := by kernel_rfl
theorem ty_fld39_2 : fldOff Tryd.prog 39 2 = some 2 := by kernel_rfl
theorem ty_fld39_3 : fldOff Tryd.prog 39 3 = some 3 := by kernel_rfl
theorem ty_fld39_4 : fldOff Tryd.prog 39 4 = some 4 := by kernel_rfl
theorem ty_fld39_5 : fldOff Tryd.prog 39 5 = some 5 := by kernel_rfl
theorem ty_fld39_6 : fldOff Tryd.prog 39 6 = some 6 := by kernel_rfl
theorem ty_fld39_7 : fldOff Tryd.prog 39 7 = some 7 := by kernel_rfl
theorem ty_fld39_8 : fldOff Tryd.prog 39 8 = some 8 := by kernel_rfl
theorem ty_fld39_9 : fldOff Tryd.prog 39 9 = some 9 := by kernel_rfl
theorem ty_fld41_0 : fldOff Tryd.prog 41 0 = some 0 := by kernel_rfl
theorem ty_fld41_1 : fldOff Tryd.prog 41 1 = some 1 := by kernel_rfl
theorem ty_fld41_2 : fldOff Tryd.prog 41 2 = some 2 := by kernel_rfl
theorem ty_fld41_3 : fldOff Tryd.prog 41 3 = some 3 := by kernel_rfl
theorem ty_fld41_4 : fldOff Tryd.prog 41 4 = some 4 := by kernel_rfl
theorem ty_fld43_0 : fldOff Tryd.prog 43 0 = some 0 := by kernel_rfl
theorem ty_fld43_1 : fldOff Tryd.prog 43 1 = some 1 := by kernel_rfl
theorem ty_fld43_2 : fldOff Tryd.prog 43 2 = some 14 := by kernel_rfl
theorem ty_fld43_3 : fldOff Tryd.prog 43 3 = some 31 := by kernel_rfl
theorem ty_fld43_4 : fldOff Tryd.prog 43 4 = some 41 := by kernel_rfl
theorem ty_fld43_5 : fldOff Tryd.prog 43 5 = some 62 := by kernel_rfl
theorem ty_fld43_6 : fldOff Tryd.prog 43 6 = some 63 := by kernel_rfl
theorem ty_fld45_0 : fldOff Tryd.prog 45 0 = some 0 := by kernel_rfl
theorem ty_fld45_1 : fldOff Tryd.prog 45 1 = some 1 := by kernel_rfl
theorem ty_fld45_2 : fldOff Tryd.prog 45 2 = some 65 := by kernel_rfl
theorem ty_fld45_3 : fldOff Tryd.prog 45 3 = some 66 := by kernel_rfl
theorem ty_fld45_4 : fldOff Tryd.prog 45 4 = some 67 := by kernel_rfl
theorem ty_ifc47 : ifcT Tryd.prog 47 = true := by kernel_rfl
theorem ty_mk25 : mkT Tryd.prog 25 = some (5, 1, 1) := by kernel_rfl
theorem ty_one25 : oneT Tryd.prog 25 = true := by kernel_rfl
theorem ty_one26 : oneT Tryd.prog 26 = true := by kernel_rfl
theorem ty_one27 : oneT Tryd.prog 27 = true := by kernel_rfl
theorem ty_one30 : oneT Tryd.prog 30 = true := by kernel_rfl
theorem ty_one37 : oneT Tryd.prog 37 = true := by kernel_rfl
theorem ty_one47 : oneT Tryd.prog 47 = true := by kernel_rfl
theorem ty_one5 : oneT Tryd.prog 5 = true := by kernel_rfl
theorem ty_pl32 : plT Tryd.prog 32 = some [(0, 6), (6, 6), (12, 1)] := by kernel_rfl
theorem ty_pl34 : plT Tryd.prog 34 = some [(0, 1), (1, 1), (2, 1), (3, 1)] := by kernel_rfl
theorem ty_pl36 : plT Tryd.prog 36 = some [(0, 1), (1, 1), (2, 1), (3, 1), (4, 1), (5, 1), (6, 1), (7, 1), (8, 4), (12, 4), (16, 1)] := by kernel_rfl
theorem ty_pl39 : plT Tryd.prog 39 = some [(0, 1), (1, 1), (2, 1), (3, 1), (4, 1), (5, 1), (6, 1), (7, 1), (8, 1), (9, 1)] := by kernel_rfl
theorem ty_pl41 : plT Tryd.prog 41 = some [(0, 1), (1, 1), (2, 1), (3, 1), (4, 17)] := by kernel_rfl
theorem ty_pl43 : plT Tryd.prog 43 = some [(0, 1), (1, 13), (14, 17), (31, 10), (41, 21), (62, 1), (63, 1)] := by kernel_rfl
theorem ty_sl101 : slT Tryd.prog 101 = some (25, 1) := by kernel_rfl
theorem ty_sl22 : slT Tryd.prog 22 = some (45, 68) := by kernel_rfl
theorem ty_sl25 : slT Tryd.prog 25 = some (5, 1) := by kernel_rfl
theorem ty_uint26 : Program.underlying Tryd.prog 26 = some (.int .u8) := by kernel_rfl
theorem ty_uint27 : Program.underlying Tryd.prog 27 = some (.int .u8) := by kernel_rfl
theorem ty_uint30 : Program.underlying Tryd.prog 30 = some (.int .u16) := by kernel_rfl
theorem ty_uint37 : Program.underlying Tryd.prog 37 = some (.int .u32) := by kernel_rfl
theorem ty_uint5 : Program.underlying Tryd.prog 5 = some (.int .u8) := by kernel_rfl
theorem ty_usl101 : Program.underlying Tryd.prog 101 = some (.slice 25) := by kernel_rfl
theorem ty_usl22 : Program.underlying Tryd.prog 22 = some (.slice 45) := by kernel_rfl
theorem ty_usl25 : Program.underlying Tryd.prog 25 = some (.slice 5) := by kernel_rfl
theorem ty_ustr9 : Program.underlying Tryd.prog 9 = some .string := by kernel_rfl
theorem ty_zero25 : zeroL Tryd.prog 25 = some [.slice none 0 0] := by kernel_rfl
theorem ty_zero32 : zeroL Tryd.prog 32 = some [.int .u8 0, .int .u8 0, .int .u8 0, .int .u8 0, .int .u8 0, .int .u8 0, .int .u8 0, .int .u8 0, .int .u8 0, .int .u8 0, .int .u8 0, .int .u8 0, .int .u16 0] := by kernel_rfl
theorem ty_zero34 : zeroL Tryd.prog 34 = some [.int .u8 0, .int .u8 0, .int .u8 0, .int .u8 0] := by kernel_rfl
theorem ty_zero36 : zeroL Tryd.prog 36 = some [.int .u8 0, .int .u16 0, .int .u16 0, .int .u8 0, .int .u16 0, .int .u8 0, .int .u8 0, .int .u16 0, .int .u8 0, .int .u8 0, .int .u8 0, .int .u8 0, .int .u8 0, .int .u8 0, .int .u8 0, .int .u8 0, .slice none 0 0] := by kernel_rfl
theorem ty_zero39 : zeroL Tryd.prog 39 = some [.int .u16 0, .int .u16 0, .int .u32 0, .int .u32 0, .int .u8 0, .int .u8 0, .int .u16 0, .int .u16 0, .int .u16 0, .slice none 0 0] := by kernel_rfl
theorem ty_zero41 : zeroL Tryd.prog 41 = some [.int .u8 0, .int .u8 0, .int .u16 0, .int .u32 0, .int .u8 0, .int .u16 0, .int .u16 0, .int .u8 0, .int .u16 0, .int .u8 0, .int .u8 0, .int .u16 0, .int .u8 0, .int .u8 0, .int .u8 0, .int .u8 0, .int .u8 0, .int .u8 0, .int .u8 0, .int .u8 0, .slice none 0 0] := by kernel_rfl
theorem ty_zero43 : zeroL Tryd.prog 43 = some [.int .u8 0, .int .u8 0, .int .u8 0, .int .u8 0, .int .u8 0, .int .u8 0, .int .u8 0, .int .u8 0, .int .u8 0, .int .u8 0, .int .u8 0, .int .u8 0, .int .u8 0, .int .u16 0, .int .u8 0, .int .u16 0, .int .u16 0, .int .u8 0, .int .u16 0, .int .u8 0, .int .u8 0, .int .u16 0, .int .u8 0, .int .u8 0, .int .u8 0, .int .u8 0, .int .u8 0, .int .u8 0, .int .u8 0, .int .u8 0, .slice none 0 0, .int .u16 0, .int .u16 0, .int .u32 0, .int .u32 0, .int .u8 0, .int .u8 0, .int .u16 0, .int .u16 0, .int .u16 0, .slice none 0 0, .int .u8 0, .int .u8 0, .int .u16 0, .int .u32 0, .int .u8 0, .int .u16 0, .int .u16 0, .int .u8 0, .int .u16 0, .int .u8 0, .int .u8 0, .int .u16 0, .int .u8 0, .int .u8 0, .int .u8 0, .int .u8 0, .int .u8 0, .int .u8 0, .int .u8 0, .int .u8 0, .slice none 0 0, .slice none 0 0, .slice none 0 0] := by kernel_rfl
theorem ty_zero45 : zeroL Tryd.prog 45 = some [.int .u8 0, .int .u8 0, .int .u8 0, .int .u8 0, .int .u8 0, .int .u8 0, .int .u8 0, .int .u8 0, .int .u8 0, .int .u8 0, .int .u8 0, .int .u8 0, .int .u8 0, .int .u8 0, .int .u16 0, .int .u8 0, .int .u16 0, .int .u16 0, .int .u8 0, .int .u16 0, .int .u8 0, .int .u8 0, .int .u16 0, .int .u8 0, .int .u8 0, .int .u8 0, .int .u8 0, .int .u8 0, .int .u8 0, .int .u8 0, .int .u8 0, .slice none 0 0, .int .u16 0, .int .u16 0, .int .u32 0, .int .u32 0, .int .u8 0, .int .u8 0, .int .u16 0, .int .u16 0, .int .u16 0, .slice none 0 0, .int .u8 0, .int .u8 0, .int .u16 0, .int .u32 0, .int .u8 0, .int .u16 0, .int .u16 0, .int .u8 0, .int .u16 0, .int .u8 0, .int .u8 0, .int .u16 0, .int .u8 0, .int .u8 0, .int .u8 0, .int .u8 0, .int .u8 0, .int .u8 0, .int .u8 0, .int .u8 0, .slice none 0 0, .slice none 0 0, .slice none 0 0, .slice none 0 0, .int .u32 0, .int .u16 0] := by kernel_rfl
theorem ty_zero5 : zeroL Tryd.prog 5 = some [.int .u8 0] := by kernel_rfl
end Go.Proofs.Qxb6500841aDoor
