/- closed facts on the types and functions, by program -/
import Derived.Test.Qxb6500837aDoorRows
import Derived.Test.Qxb6500837aDoorE24
import Derived.DeepKeys4
import Derived.Maps.Keyed
namespace Go.Proofs.Qxb6500837aDoor
open Go.E1
theorem ty_some : 0 < Tryd.prog.types.size := of_decide_eq_true (by kernel_rfl)
theorem ty_mixed : Tryd.prog.follows .mixedOrders = true := by kernel_rfl
theorem ty_agg31 : aggT Tryd.prog 31 = some 3 := by kernel_rfl
theorem ty_agg33 : aggT Tryd.prog 33 = some 9 := by kernel_rfl
theorem ty_agg37 : aggT Tryd.prog 37 = some 2 := by kernel_rfl
theorem ty_agg48 : aggT Tryd.prog 48 = some 10 := by kernel_rfl
theorem ty_agg63 : aggT Tryd.prog 63 = some 2 := by kernel_rfl
theorem ty_agg67 : aggT Tryd.prog 67 = some 8 := by kernel_rfl
theorem ty_agg91 : aggT Tryd.prog 91 = some 2 := by kernel_rfl
theorem ty_agg95 : aggT Tryd.prog 95 = some 5 := by kernel_rfl
theorem ty_ar129 : arT Tryd.prog 129 = some (32, 2, 1) := by kernel_rfl
theorem ty_ar130 : arT Tryd.prog 130 = some (16384, 5, 1) := by kernel_rfl
theorem ty_bool4 : Program.underlying Tryd.prog 4 = some .bool := by kernel_rfl
theorem ty_bytes33 : Program.bytesOf Tryd.prog 33 = 104 := by kernel_rfl
theorem ty_bytes5 : Program.bytesOf Tryd.prog 5 = 1 := by kernel_rfl
theorem ty_call10 : callT Tryd.prog 10 = true := by kernel_rfl
theorem ty_call11 : callT Tryd.prog 11 = true := by kernel_rfl
theorem ty_call12 : callT Tryd.prog 12 = true := by kernel_rfl
theorem ty_call13 : callT Tryd.prog 13 = true := by kernel_rfl
theorem ty_call14 : callT Tryd.prog 14 = true := by kernel_rfl
theorem ty_call15 : callT Tryd.prog 15 = true := by kernel_rfl
theorem ty_call16 : callT Tryd.prog 16 = true := by kernel_rfl
theorem ty_call17 : callT Tryd.prog 17 = true := by kernel_rfl
theorem ty_call18 : callT Tryd.prog 18 = true := by kernel_rfl
theorem ty_call19 : callT Tryd.prog 19 = true := by kernel_rfl
theorem ty_call20 : callT Tryd.prog 20 = true := by kernel_rfl
theorem ty_call21 : callT Tryd.prog 21 = true := by kernel_rfl
theorem ty_call22 : callT Tryd.prog 22 = true := by kernel_rfl
theorem ty_call23 : callT Tryd.prog 23 = true := by kernel_rfl
theorem ty_call24 : callT Tryd.prog 24 = true := by kernel_rfl
theorem ty_call25 : callT Tryd.prog 25 = true := by kernel_rfl
theorem ty_call26 : callT Tryd.prog 26 = true := by kernel_rfl
theorem ty_call27 : callT Tryd.prog 27 = true := by kernel_rfl
theorem ty_call28 : callT Tryd.prog 28 = true := by kernel_rfl
theorem ty_call29 : callT Tryd.prog 29 = true := by kernel_rfl
theorem ty_call30 : callT Tryd.prog 30 = true := by kernel_rfl
theorem ty_call31 : callT Tryd.prog 31 = true := by kernel_rfl
theorem ty_call32 : callT Tryd.prog 32 = true := by kernel_rfl
theorem ty_call33 : callT Tryd.prog 33 = true := by kernel_rfl
theorem ty_call34 : callT Tryd.prog 34 = true := by kernel_rfl
theorem ty_call35 : callT Tryd.prog 35 = true := by kernel_rfl
theorem ty_call36 : callT Tryd.prog 36 = true := by kernel_rfl
theorem ty_call37 : callT Tryd.prog 37 = true := by kernel_rfl
theorem ty_call38 : callT Tryd.prog 38 = true := by kernel_rfl
theorem ty_call39 : callT Tryd.prog 39 = true := by kernel_rfl
theorem ty_call40 : callT Tryd.prog 40 = true := by kernel_rfl
theorem ty_call41 : callT Tryd.prog 41 = true := by kernel_rfl
theorem ty_call42 : callT Tryd.prog 42 = true := by kernel_rfl
theorem ty_call43 : callT Tryd.prog 43 = true := by kernel_rfl
theorem ty_call44 : callT Tryd.prog 44 = true := by kernel_rfl
theorem ty_call45 : callT Tryd.prog 45 = true := by kernel_rfl
theorem ty_call46 : callT Tryd.prog 46 = true := by kernel_rfl
theorem ty_call47 : callT Tryd.prog 47 = true := by kernel_rfl
theorem ty_call48 : callT Tryd.prog 48 = true := by kernel_rfl
theorem ty_call49 : callT Tryd.prog 49 = true := by kernel_rfl
theorem ty_call50 : callT Tryd.prog 50 = true := by kernel_rfl
theorem ty_call51 : callT Tryd.prog 51 = true := by kernel_rfl
theorem ty_call52 : callT Tryd.prog 52 = true := by kernel_rfl
theorem ty_call53 : callT Tryd.prog 53 = true := by kernel_rfl
theorem ty_call54 : callT Tryd.prog 54 = true := by kernel_rfl
theorem ty_call55 : callT Tryd.prog 55 = true := by kernel_rfl
theorem ty_call56 : callT Tryd.prog 56 = true := by kernel_rfl
theorem ty_call57 : callT Tryd.prog 57 = true := by kernel_rfl
theorem ty_call58 : callT Tryd.prog 58 = true := by kernel_rfl
theorem ty_call59 : callT Tryd.prog 59 = true := by kernel_rfl
theorem ty_call60 : callT Tryd.prog 60 = true := by kernel_rfl
theorem ty_call61 : callT Tryd.prog 61 = true := by kernel_rfl
theorem ty_call62 : callT Tryd.prog 62 = true := by kernel_rfl
theorem ty_call63 : callT Tryd.prog 63 = true := by kernel_rfl
theorem ty_call64 : callT Tryd.prog 64 = true := by kernel_rfl
theorem ty_call71 : callT Tryd.prog 71 = true := by kernel_rfl
theorem ty_cells33 : Program.cellsOf Tryd.prog 33 = 9 := by kernel_rfl
theorem ty_cells5 : Program.cellsOf Tryd.prog 5 = 1 := by kernel_rfl
theorem ty_conc101 : concT Tryd.prog 101 = true := by kernel_rfl
theorem ty_conc103 : concT Tryd.prog 103 = true := by kernel_rfl
theorem ty_cv2_153 : convT Tryd.prog 2 153 = some .u64 := by kernel_rfl
theorem ty_fld105_0 : fldOff Tryd.prog 105 0 = some 0 := by kernel_rfl
theorem ty_fld132_0 : fldOff Tryd.prog 132 0 = some 0 := by kernel_rfl
theorem ty_fld132_1 : fldOff Tryd.prog 132 1 = some 32 := by kernel_rfl
theorem ty_fld31_0 : fldOff Tryd.prog 31 0 = some 0 := by kernel_rfl
theorem ty_fld31_1 : fldOff Tryd.prog 31 1 = some 1 := by kernel_rfl
theorem ty_fld31_2 : fldOff Tryd.prog 31 2 = some 2 := by kernel_rfl
theorem ty_fld33_0 : fldOff Tryd.prog 33 0 = some 0 := by kernel_rfl
theorem ty_fld33_1 : fldOff Tryd.prog 33 1 = some 1 := by kernel_rfl
theorem ty_fld33_2 : fldOff Tryd.prog 33 2 = some 2 := by kernel_rfl
theorem ty_fld33_3 : fldOff Tryd.prog 33 3 = some 3 := by kernel_rfl
theorem ty_fld33_4 : fldOff Tryd.prog 33 4 = some 4 := by kernel_rfl
theorem ty_fld33_5 : fldOff Tryd.prog 33 5 = some 5 := by kernel_rfl
theorem ty_fld33_6 : fldOff Tryd.prog 33 6 = some 6 := by kernel_rfl
theorem ty_fld37_0 : fldOff Tryd.prog 37 0 = some 0 := by kernel_rfl
theorem ty_fld37_1 : fldOff Tryd.prog 37 1 = some 1 := by kernel_rfl
theorem ty_fld42_0 : fldOff Tryd.prog 42 0 = some 0 := by kernel_rfl
theorem ty_fld48_0 : fldOff Tryd.prog 48 0 = some 0 := by kernel_rfl
theorem ty_fld48_1 : fldOff Tryd.prog 48 1 = some 1 := by kernel_rfl
theorem ty_fld48_2 : fldOff Tryd.prog 48 2 = some 2 := by kernel_rfl
theorem ty_fld48_3 : fldOff Tryd.prog 48 3 = some 3 := by kernel_rfl
theorem ty_fld48_4 : fldOff Tryd.prog 48 4 = some 4 := by kernel_rfl
theorem ty_fld48_5 : fldOff Tryd.prog 48 5 = some 5 := by kernel_rfl
theorem ty_fld48_6 : fldOff Tryd.prog 48 6 = some 6 := by kernel_rfl
theorem ty_fld48_7 : fldOff Tryd.prog 48 7 = some 7 := by kernel_rfl
theorem ty_fld60_0 : fldOff Tryd.prog 60 0 = some 0 := by kernel_rfl
theorem ty_fld60_1 : fldOff Tryd.prog 60 1 = some 1 := by kernel_rfl
theorem ty_fld60_2 : fldOff Tryd.prog 60 2 = some 2 := by kernel_rfl
theorem ty_fld60_3 : fldOff Tryd.prog 60 3 = some 5 := by kernel_rfl
theorem ty_fld60_4 : fldOff Tryd.prog 60 4 = some 6 := by kernel_rfl
theorem ty_fld63_0 : fldOff Tryd.prog 63 0 = some 0 := by kernel_rfl
theorem ty_fld63_1 : fldOff Tryd.prog 63 1 = some 1 := by kernel_rfl
theorem ty_fld67_0 : fldOff Tryd.prog 67 0 = some 0 := by kernel_rfl
theorem ty_fld67_1 : fldOff Tryd.prog 67 1 = some 1 := by kernel_rfl
theorem ty_fld67_2 : fldOff Tryd.prog 67 2 = some 2 := by kernel_rfl
theorem ty_fld67_3 : fldOff Tryd.prog 67 3 = some 3 := by kernel_rfl
theorem ty_fld67_4 : fldOff Tryd.prog 67 4 = some 4 := by kernel_rfl
theorem ty_fld67_5 : fldOff Tryd.prog 67 5 = some 5 := by kernel_rfl
theorem ty_fld67_6 : fldOff Tryd.prog 67 6 = some 6 := by kernel_rfl
theorem ty_fld67_7 : fldOff Tryd.prog 67 7 = some 7 := by kernel_rfl
theorem ty_fld74_0 : fldOff Tryd.prog 74 0 = some 0 := by kernel_rfl
theorem ty_fld74_1 : fldOff Tryd.prog 74 1 = some 1 := by kernel_rfl
theorem ty_fld91_0 : fldOff Tryd.prog 91 0 = some 0 := by kernel_rfl
theorem ty_fld91_1 : fldOff Tryd.prog 91 1 = some 1 := by kernel_rfl
theorem ty_fld95_0 : fldOff Tryd.prog 95 0 = some 0 := by kernel_rfl
theorem ty_fld95_1 : fldOff Tryd.prog 95 1 = some 1 := by kernel_rfl
theorem ty_fld95_2 : fldOff Tryd.prog 95 2 = some 2 := by kernel_rfl
theorem ty_fld95_3 : fldOff Tryd.prog 95 3 = some 3 := by kernel_rfl
theorem ty_fld95_4 : fldOff Tryd.prog 95 4 = some 4 := by kernel_rfl
theorem ty_fld97_0 : fldOff Tryd.prog 97 0 = some 0 := by kernel_rfl
theorem ty_fld97_1 : fldOff Tryd.prog 97 1 = some 2 := by kernel_rfl
theorem ty_fld97_2 : fldOff Tryd.prog 97 2 = some 4 := by kernel_rfl
theorem ty_fld97_3 : fldOff Tryd.prog 97 3 = some 9 := by kernel_rfl
theorem ty_fld97_4 : fldOff Tryd.prog 97 4 = some 10 := by kernel_rfl
theorem ty_fld97_5 : fldOff Tryd.prog 97 5 = some 11 := by kernel_rfl
theorem ty_fld97_6 : fldOff Tryd.prog 97 6 = some 12 := by kernel_rfl
theorem ty_fld97_7 : fldOff Tryd.prog 97 7 = some 15 := by kernel_rfl
theorem ty_fv37_0 : fldV Tryd.prog 37 0 = some 0 := by kernel_rfl
theorem ty_fv67_1 : fldV Tryd.prog 67 1 = some 1 := by kernel_rfl
theorem ty_ifc70 : ifcT Tryd.prog 70 = true := by kernel_rfl
theorem ty_kb2 : KB Tryd.prog 2 (keyGood Tryd.prog 2) := KB.of_keyed (Maps.int_keyed Tryd.underlying2)
theorem ty_mk29 : mkT Tryd.prog 29 = some (5, 1, 1) := by kernel_rfl
theorem ty_mk46 : mkT Tryd.prog 46 = some (63, 2, 32) := by kernel_rfl
theorem ty_mk54 : mkT Tryd.prog 54 = some (29, 1, 24) := by kernel_rfl
theorem ty_mk61 : mkT Tryd.prog 61 = some (3, 1, 8) := by kernel_rfl
theorem ty_mk92 : mkT Tryd.prog 92 = some (128, 1, 8) := by kernel_rfl
theorem ty_mp45 : mpT Tryd.prog 45 = some (2, 29) := by kernel_rfl
theorem ty_mp93 : mpT Tryd.prog 93 = some (2, 2) := by kernel_rfl
theorem ty_one101 : oneT Tryd.prog 101 = true := by kernel_rfl
theorem ty_one128 : oneT Tryd.prog 128 = true := by kernel_rfl
theorem ty_one2 : oneT Tryd.prog 2 = true := by kernel_rfl
theorem ty_one28 : oneT Tryd.prog 28 = true := by kernel_rfl
theorem ty_one29 : oneT Tryd.prog 29 = true := by kernel_rfl
theorem ty_one3 : oneT Tryd.prog 3 = true := by kernel_rfl
theorem ty_one35 : oneT Tryd.prog 35 = true := by kernel_rfl
theorem ty_one4 : oneT Tryd.prog 4 = true := by kernel_rfl
theorem ty_one40 : oneT Tryd.prog 40 = true := by kernel_rfl
theorem ty_one45 : oneT Tryd.prog 45 = true := by kernel_rfl
theorem ty_one46 : oneT Tryd.prog 46 = true := by kernel_rfl
theorem ty_one5 : oneT Tryd.prog 5 = true := by kernel_rfl
theorem ty_one54 : oneT Tryd.prog 54 = true := by kernel_rfl
theorem ty_one92 : oneT Tryd.prog 92 = true := by kernel_rfl
theorem ty_one93 : oneT Tryd.prog 93 = true := by kernel_rfl
theorem ty_pl105 : plT Tryd.prog 105 = some [(0, 1), (1, 1), (2, 1)] := by kernel_rfl
theorem ty_pl31 : plT Tryd.prog 31 = some [(0, 1), (1, 1), (2, 1)] := by kernel_rfl
theorem ty_pl37 : plT Tryd.prog 37 = some [(0, 1), (1, 1)] := by kernel_rfl
theorem ty_pl42 : plT Tryd.prog 42 = some [(0, 1)] := by kernel_rfl
theorem ty_pl48 : plT Tryd.prog 48 = some [(0, 1), (1, 1), (2, 1), (3, 1), (4, 1), (5, 1), (6, 1), (7, 3)] := by kernel_rfl
theorem ty_pl60 : plT Tryd.prog 60 = some [(0, 1), (1, 1), (2, 3), (5, 1), (6, 1)] := by kernel_rfl
theorem ty_pl63 : plT Tryd.prog 63 = some [(0, 1), (1, 1)] := by kernel_rfl
theorem ty_pl74 : plT Tryd.prog 74 = some [(0, 1), (1, 1)] := by kernel_rfl
theorem ty_pl91 : plT Tryd.prog 91 = some [(0, 1), (1, 1)] := by kernel_rfl
theorem ty_pl95 : plT Tryd.prog 95 = some [(0, 1), (1, 1), (2, 1), (3, 1), (4, 1)] := by kernel_rfl
theorem ty_pl97 : plT Tryd.prog 97 = some [(0, 2), (2, 2), (4, 5), (9, 1), (10, 1), (11, 1), (12, 3), (15, 8)] := by kernel_rfl
theorem ty_sl22 : slT Tryd.prog 22 = some (33, 9) := by kernel_rfl
theorem ty_sl29 : slT Tryd.prog 29 = some (5, 1) := by kernel_rfl
theorem ty_sl46 : slT Tryd.prog 46 = some (63, 2) := by kernel_rfl
theorem ty_sl54 : slT Tryd.prog 54 = some (29, 1) := by kernel_rfl
theorem ty_sl61 : slT Tryd.prog 61 = some (3, 1) := by kernel_rfl
theorem ty_sl92 : slT Tryd.prog 92 = some (128, 1) := by kernel_rfl
theorem ty_uint2 : Program.underlying Tryd.prog 2 = some (.int .i64) := by kernel_rfl
theorem ty_uint28 : Program.underlying Tryd.prog 28 = some (.int .i64) := by kernel_rfl
theorem ty_uint5 : Program.underlying Tryd.prog 5 = some (.int .u8) := by kernel_rfl
theorem ty_uptr128 : Program.underlying Tryd.prog 128 = some (.pointer 132) := by kernel_rfl
theorem ty_usl22 : Program.underlying Tryd.prog 22 = some (.slice 33) := by kernel_rfl
theorem ty_usl29 : Program.underlying Tryd.prog 29 = some (.slice 5) := by kernel_rfl
theorem ty_usl46 : Program.underlying Tryd.prog 46 = some (.slice 63) := by kernel_rfl
theorem ty_usl54 : Program.underlying Tryd.prog 54 = some (.slice 29) := by kernel_rfl
theorem ty_usl61 : Program.underlying Tryd.prog 61 = some (.slice 3) := by kernel_rfl
theorem ty_ustr9 : Program.underlying Tryd.prog 9 = some .string := by kernel_rfl
theorem ty_z12 : zero1 Tryd.prog 2 = some (.int .i64 0) := by kernel_rfl
theorem ty_z129 : zero1 Tryd.prog 29 = some (.slice none 0 0) := by kernel_rfl
theorem ty_z15 : zero1 Tryd.prog 5 = some (.int .u8 0) := by kernel_rfl
theorem ty_zero101 : zeroL Tryd.prog 101 = some [.pointer none] := by kernel_rfl
theorem ty_zero105 : zeroL Tryd.prog 105 = some [.int .i64 0, .string ⟨#[]⟩, .int .i64 0] := by kernel_rfl
theorem ty_zero128 : zeroL Tryd.prog 128 = some [.pointer none] := by kernel_rfl
set_option maxRecDepth 1000000 in
theorem ty_zero132 : zeroL Tryd.prog 132 = some (List.replicate 32 (.int .i64 0) ++ List.replicate 16384 (.int .u8 0)) := by kernel_rfl
theorem ty_zero29 : zeroL Tryd.prog 29 = some [.slice none 0 0] := by kernel_rfl
theorem ty_zero3 : zeroL Tryd.prog 3 = some [.int .i64 0] := by kernel_rfl
theorem ty_zero31 : zeroL Tryd.prog 31 = some [.slice none 0 0, .int .i64 0, .int .i64 0] := by kernel_rfl
theorem ty_zero33 : zeroL Tryd.prog 33 = some [.int .i64 0, .int .i64 0, .int .i64 0, .int .i64 0, .slice none 0 0, .int .i64 0, .slice none 0 0, .int .i64 0, .int .i64 0] := by kernel_rfl
theorem ty_zero37 : zeroL Tryd.prog 37 = some [.int .i64 0, .slice none 0 0] := by kernel_rfl
theorem ty_zero42 : zeroL Tryd.prog 42 = some [.pointer none] := by kernel_rfl
theorem ty_zero48 : zeroL Tryd.prog 48 = some [.int .i64 0, .int .i64 0, .map none, .slice none 0 0, .bool false, .bool false, .int .i64 0, .slice none 0 0, .int .i64 0, .int .i64 0] := by kernel_rfl
theorem ty_zero5 : zeroL Tryd.prog 5 = some [.int .u8 0] := by kernel_rfl
theorem ty_zero60 : zeroL Tryd.prog 60 = some [.map none, .slice none 0 0, .slice none 0 0, .int .i64 0, .int .i64 0, .slice none 0 0, .int .i64 0] := by kernel_rfl
theorem ty_zero63 : zeroL Tryd.prog 63 = some [.int .i64 0, .slice none 0 0] := by kernel_rfl
theorem ty_zero67 : zeroL Tryd.prog 67 = some [.int .i64 0, .int .i64 0, .int .i64 0, .int .i64 0, .int .i64 0, .int .i64 0, .int .i64 0, .int .i64 0] := by kernel_rfl
theorem ty_zero74 : zeroL Tryd.prog 74 = some [.int .i64 0, .int .i64 0] := by kernel_rfl
theorem ty_zero91 : zeroL Tryd.prog 91 = some [.int .i64 0, .slice none 0 0] := by kernel_rfl
theorem ty_zero95 : zeroL Tryd.prog 95 = some [.int .i64 0, .int .i64 0, .int .i64 0, .slice none 0 0, .map none] := by kernel_rfl
theorem ty_zero97 : zeroL Tryd.prog 97 = some [.int .i32 0, .int .u32 0, .int .i64 0, .slice none 0 0, .int .i64 0, .int .i64 0, .int .i64 0, .slice none 0 0, .map none, .bool false, .bool false, .int .i64 0, .slice none 0 0, .int .i64 0, .int .i64 0, .int .i64 0, .int .i64 0, .int .i64 0, .int .i64 0, .int .i64 0, .int .i64 0, .int .i64 0, .int .i64 0] := by kernel_rfl
end Go.Proofs.Qxb6500837aDoor
