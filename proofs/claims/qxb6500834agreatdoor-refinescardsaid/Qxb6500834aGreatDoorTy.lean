/- closed facts on the types and functions, by program -/
import Derived.Test.Qxb6500834aGreatDoorRows
import Derived.Test.Qxb6500834aGreatDoorE32
import Derived.DeepKeys4
import Derived.Maps.Keyed
namespace Go.Proofs.Qxb6500834aGreatDoor
open Go.E1
theorem ty_some : 0 < Tryz.prog.types.size := of_decide_eq_true (by kernel_rfl)
theorem ty_mixed : Tryz.prog.follows .mixedOrders = true := by kernel_rfl
theorem ty_agg112 : aggT Tryz.prog 112 = some 2 := by kernel_rfl
theorem ty_agg117 : aggT Tryz.prog 117 = some 135 := by kernel_rfl
theorem ty_agg164 : aggT Tryz.prog 164 = some 3 := by kernel_rfl
theorem ty_agg195 : aggT Tryz.prog 195 = some 16 := by kernel_rfl
theorem ty_agg28 : aggT Tryz.prog 28 = some 5 := by kernel_rfl
theorem ty_agg34 : aggT Tryz.prog 34 = some 3 := by kernel_rfl
theorem ty_agg42 : aggT Tryz.prog 42 = some 6 := by kernel_rfl
theorem ty_agg44 : aggT Tryz.prog 44 = some 20 := by kernel_rfl
theorem ty_agg45 : aggT Tryz.prog 45 = some 320 := by kernel_rfl
theorem ty_agg48 : aggT Tryz.prog 48 = some 12 := by kernel_rfl
theorem ty_agg50 : aggT Tryz.prog 50 = some 771 := by kernel_rfl
theorem ty_agg61 : aggT Tryz.prog 61 = some 2 := by kernel_rfl
theorem ty_agg81 : aggT Tryz.prog 81 = some 16 := by kernel_rfl
theorem ty_agg83 : aggT Tryz.prog 83 = some 3 := by kernel_rfl
theorem ty_ar113 : arT Tryz.prog 113 = some (64, 112, 2) := by kernel_rfl
theorem ty_ar118 : arT Tryz.prog 118 = some (16, 117, 135) := by kernel_rfl
theorem ty_ar136 : arT Tryz.prog 136 = some (8, 3, 1) := by kernel_rfl
theorem ty_ar137 : arT Tryz.prog 137 = some (32, 5, 1) := by kernel_rfl
theorem ty_ar195 : arT Tryz.prog 195 = some (16, 38, 1) := by kernel_rfl
theorem ty_ar43 : arT Tryz.prog 43 = some (16, 42, 6) := by kernel_rfl
theorem ty_ar44 : arT Tryz.prog 44 = some (20, 3, 1) := by kernel_rfl
theorem ty_ar45 : arT Tryz.prog 45 = some (16, 44, 20) := by kernel_rfl
theorem ty_ar47 : arT Tryz.prog 47 = some (20, 46, 1) := by kernel_rfl
theorem ty_ar48 : arT Tryz.prog 48 = some (12, 26, 1) := by kernel_rfl
theorem ty_ar76 : arT Tryz.prog 76 = some (16, 3, 1) := by kernel_rfl
theorem ty_ar81 : arT Tryz.prog 81 = some (16, 26, 1) := by kernel_rfl
theorem ty_ar86 : arT Tryz.prog 86 = some (16, 4, 1) := by kernel_rfl
theorem ty_bytes28 : Program.bytesOf Tryz.prog 28 = 40 := by kernel_rfl
theorem ty_call100 : callT Tryz.prog 100 = true := by kernel_rfl
theorem ty_call101 : callT Tryz.prog 101 = true := by kernel_rfl
theorem ty_call102 : callT Tryz.prog 102 = true := by kernel_rfl
theorem ty_call103 : callT Tryz.prog 103 = true := by kernel_rfl
theorem ty_call104 : callT Tryz.prog 104 = true := by kernel_rfl
theorem ty_call105 : callT Tryz.prog 105 = true := by kernel_rfl
theorem ty_call106 : callT Tryz.prog 106 = true := by kernel_rfl
theorem ty_call107 : callT Tryz.prog 107 = true := by kernel_rfl
theorem ty_call108 : callT Tryz.prog 108 = true := by kernel_rfl
theorem ty_call109 : callT Tryz.prog 109 = true := by kernel_rfl
theorem ty_call110 : callT Tryz.prog 110 = true := by kernel_rfl
theorem ty_call111 : callT Tryz.prog 111 = true := by kernel_rfl
theorem ty_call112 : callT Tryz.prog 112 = true := by kernel_rfl
theorem ty_call113 : callT Tryz.prog 113 = true := by kernel_rfl
theorem ty_call114 : callT Tryz.prog 114 = true := by kernel_rfl
theorem ty_call115 : callT Tryz.prog 115 = true := by kernel_rfl
theorem ty_call116 : callT Tryz.prog 116 = true := by kernel_rfl
theorem ty_call117 : callT Tryz.prog 117 = true := by kernel_rfl
theorem ty_call118 : callT Tryz.prog 118 = true := by kernel_rfl
theorem ty_call119 : callT Tryz.prog 119 = true := by kernel_rfl
theorem ty_call130 : callT Tryz.prog 130 = true := by kernel_rfl
theorem ty_call131 : callT Tryz.prog 131 = true := by kernel_rfl
theorem ty_call132 : callT Tryz.prog 132 = true := by kernel_rfl
theorem ty_call133 : callT Tryz.prog 133 = true := by kernel_rfl
theorem ty_call134 : callT Tryz.prog 134 = true := by kernel_rfl
theorem ty_call135 : callT Tryz.prog 135 = true := by kernel_rfl
theorem ty_call136 : callT Tryz.prog 136 = true := by kernel_rfl
theorem ty_call137 : callT Tryz.prog 137 = true := by kernel_rfl
theorem ty_call138 : callT Tryz.prog 138 = true := by kernel_rfl
theorem ty_call139 : callT Tryz.prog 139 = true := by kernel_rfl
theorem ty_call140 : callT Tryz.prog 140 = true := by kernel_rfl
theorem ty_call141 : callT Tryz.prog 141 = true := by kernel_rfl
theorem ty_call142 : callT Tryz.prog 142 = true := by kernel_rfl
theorem ty_call143 : callT Tryz.prog 143 = true := by kernel_rfl
theorem ty_call145 : callT Tryz.prog 145 = true := by kernel_rfl
theorem ty_call146 : callT Tryz.prog 146 = true := by kernel_rfl
theorem ty_call147 : callT Tryz.prog 147 = true := by kernel_rfl
theorem ty_call148 : callT Tryz.prog 148 = true := by kernel_rfl
theorem ty_call149 : callT Tryz.prog 149 = true := by kernel_rfl
theorem ty_call150 : callT Tryz.prog 150 = true := by kernel_rfl
theorem ty_call151 : callT Tryz.prog 151 = true := by kernel_rfl
theorem ty_call161 : callT Tryz.prog 161 = true := by kernel_rfl
theorem ty_call162 : callT Tryz.prog 162 = true := by kernel_rfl
theorem ty_call163 : callT Tryz.prog 163 = true := by kernel_rfl
theorem ty_call164 : callT Tryz.prog 164 = true := by kernel_rfl
theorem ty_call165 : callT Tryz.prog 165 = true := by kernel_rfl
theorem ty_call166 : callT Tryz.prog 166 = true := by kernel_rfl
theorem ty_call167 : callT Tryz.prog 167 = true := by kernel_rfl
theorem ty_call189 : callT Tryz.prog 189 = true := by kernel_rfl
theorem ty_call23 : callT Tryz.prog 23 = true := by kernel_rfl
theorem ty_call24 : callT Tryz.prog 24 = true := by kernel_rfl
theorem ty_call28 : callT Tryz.prog 28 = true := by kernel_rfl
theorem ty_call30 : callT Tryz.prog 30 = true := by kernel_rfl
theorem ty_call31 : callT Tryz.prog 31 = true := by kernel_rfl
theorem ty_call48 : callT Tryz.prog 48 = true := by kernel_rfl
theorem ty_call51 : callT Tryz.prog 51 = true := by kernel_rfl
theorem ty_call52 : callT Tryz.prog 52 = true := by kernel_rfl
theorem ty_call53 : callT Tryz.prog 53 = true := by kernel_rfl
theorem ty_call54 : callT Tryz.prog 54 = true := by kernel_rfl
theorem ty_call58 : callT Tryz.prog 58 = true := by kernel_rfl
theorem ty_call66 : callT Tryz.prog 66 = true := by kernel_rfl
theorem ty_call67 : callT Tryz.prog 67 = true := by kernel_rfl
theorem ty_call72 : callT Tryz.prog 72 = true := by kernel_rfl
theorem ty_call73 : callT Tryz.prog 73 = true := by kernel_rfl
theorem ty_call74 : callT Tryz.prog 74 = true := by kernel_rfl
theorem ty_call75 : callT Tryz.prog 75 = true := by kernel_rfl
theorem ty_call76 : callT Tryz.prog 76 = true := by kernel_rfl
theorem ty_call77 : callT Tryz.prog 77 = true := by kernel_rfl
theorem ty_call78 : callT Tryz.prog 78 = true := by kernel_rfl
theorem ty_call79 : callT Tryz.prog 79 = true := by kernel_rfl
theorem ty_call80 : callT Tryz.prog 80 = true := by kernel_rfl
theorem ty_call81 : callT Tryz.prog 81 = true := by kernel_rfl
theorem ty_call82 : callT Tryz.prog 82 = true := by kernel_rfl
theorem ty_call83 : callT Tryz.prog 83 = true := by kernel_rfl
theorem ty_call84 : callT Tryz.prog 84 = true := by kernel_rfl
theorem ty_call85 : callT Tryz.prog 85 = true := by kernel_rfl
theorem ty_call86 : callT Tryz.prog 86 = true := by kernel_rfl
theorem ty_call87 : callT Tryz.prog 87 = true := by kernel_rfl
theorem ty_call88 : callT Tryz.prog 88 = true := by kernel_rfl
theorem ty_call89 : callT Tryz.prog 89 = true := by kernel_rfl
theorem ty_call90 : callT Tryz.prog 90 = true := by kernel_rfl
theorem ty_call91 : callT Tryz.prog 91 = true := by kernel_rfl
theorem ty_call92 : callT Tryz.prog 92 = true := by kernel_rfl
theorem ty_cells28 : Program.cellsOf Tryz.prog 28 = 5 := by kernel_rfl
theorem ty_conc145 : concT Tryz.prog 145 = true := by kernel_rfl
theorem ty_cv26_31 : convT Tryz.prog 26 31 = some .i64 := by kernel_rfl
theorem ty_cv31_26 : convT Tryz.prog 31 26 = some .u64 := by kernel_rfl
theorem ty_cv31_92 : convT Tryz.prog 31 92 = some .u64 := by kernel_rfl
theorem ty_cv37_138 : convT Tryz.prog 37 138 = some .u32 := by kernel_rfl
theorem ty_cv5_3 : convT Tryz.prog 5 3 = some .i64 := by kernel_rfl
theorem ty_fld112_0 : fldOff Tryz.prog 112 0 = some 0 := by kernel_rfl
theorem ty_fld112_1 : fldOff Tryz.prog 112 1 = some 1 := by kernel_rfl
theorem ty_fld115_0 : fldOff Tryz.prog 115 0 = some 0 := by kernel_rfl
theorem ty_fld115_1 : fldOff Tryz.prog 115 1 = some 1 := by kernel_rfl
theorem ty_fld117_0 : fldOff Tryz.prog 117 0 = some 0 := by kernel_rfl
theorem ty_fld117_1 : fldOff Tryz.prog 117 1 = some 1 := by kernel_rfl
theorem ty_fld117_2 : fldOff Tryz.prog 117 2 = some 2 := by kernel_rfl
theorem ty_fld117_3 : fldOff Tryz.prog 117 3 = some 3 := by kernel_rfl
theorem ty_fld117_4 : fldOff Tryz.prog 117 4 = some 4 := by kernel_rfl
theorem ty_fld117_5 : fldOff Tryz.prog 117 5 = some 5 := by kernel_rfl
theorem ty_fld117_6 : fldOff Tryz.prog 117 6 = some 6 := by kernel_rfl
theorem ty_fld120_0 : fldOff Tryz.prog 120 0 = some 0 := by kernel_rfl
theorem ty_fld120_1 : fldOff Tryz.prog 120 1 = some 1 := by kernel_rfl
theorem ty_fld120_2 : fldOff Tryz.prog 120 2 = some 2 := by kernel_rfl
theorem ty_fld120_3 : fldOff Tryz.prog 120 3 = some 3 := by kernel_rfl
theorem ty_fld120_4 : fldOff Tryz.prog 120 4 = some 2163 := by kernel_rfl
theorem ty_fld120_5 : fldOff Tryz.prog 120 5 = some 2175 := by kernel_rfl
theorem ty_fld120_6 : fldOff Tryz.prog 120 6 = some 2176 := by kernel_rfl
theorem ty_fld131_0 : fldOff Tryz.prog 131 0 = some 0 := by kernel_rfl
theorem ty_fld131_1 : fldOff Tryz.prog 131 1 = some 1 := by kernel_rfl
theorem ty_fld147_0 : fldOff Tryz.prog 147 0 = some 0 := by kernel_rfl
theorem ty_fld147_1 : fldOff Tryz.prog 147 1 = some 1 := by kernel_rfl
theorem ty_fld147_2 : fldOff Tryz.prog 147 2 = some 2 := by kernel_rfl
theorem ty_fld149_0 : fldOff Tryz.prog 149 0 = some 0 := by kernel_rfl
theorem ty_fld149_1 : fldOff Tryz.prog 149 1 = some 320 := by kernel_rfl
theorem ty_fld164_0 : fldOff Tryz.prog 164 0 = some 0 := by kernel_rfl
theorem ty_fld164_1 : fldOff Tryz.prog 164 1 = some 1 := by kernel_rfl
theorem ty_fld164_2 : fldOff Tryz.prog 164 2 = some 2 := by kernel_rfl
theorem ty_fld28_0 : fldOff Tryz.prog 28 0 = some 0 := by kernel_rfl
theorem ty_fld28_1 : fldOff Tryz.prog 28 1 = some 1 := by kernel_rfl
theorem ty_fld28_2 : fldOff Tryz.prog 28 2 = some 2 := by kernel_rfl
theorem ty_fld28_3 : fldOff Tryz.prog 28 3 = some 3 := by kernel_rfl
theorem ty_fld28_4 : fldOff Tryz.prog 28 4 = some 4 := by kernel_rfl
theorem ty_fld34_0 : fldOff Tryz.prog 34 0 = some 0 := by kernel_rfl
theorem ty_fld34_1 : fldOff Tryz.prog 34 1 = some 1 := by kernel_rfl
theorem ty_fld34_2 : fldOff Tryz.prog 34 2 = some 2 := by kernel_rfl
theorem ty_fld36_0 : fldOff Tryz.prog 36 0 = some 0 := by kernel_rfl
theorem ty_fld36_1 : fldOff Tryz.prog 36 1 = some 5 := by kernel_rfl
theorem ty_fld36_2 : fldOff Tryz.prog 36 2 = some 6 := by kernel_rfl
theorem ty_fld36_3 : fldOff Tryz.prog 36 3 = some 7 := by kernel_rfl
theorem ty_fld42_2 : fldOff Tryz.prog 42 2 = some 2 := by kernel_rfl
theorem ty_fld50_3 : fldOff Tryz.prog 50 3 = some 3 := by kernel_rfl
theorem ty_fld50_6 : fldOff Tryz.prog 50 6 = some 739 := by kernel_rfl
theorem ty_fld61_0 : fldOff Tryz.prog 61 0 = some 0 := by kernel_rfl
theorem ty_fld61_1 : fldOff Tryz.prog 61 1 = some 1 := by kernel_rfl
theorem ty_fld83_0 : fldOff Tryz.prog 83 0 = some 0 := by kernel_rfl
theorem ty_fld83_1 : fldOff Tryz.prog 83 1 = some 1 := by kernel_rfl
theorem ty_fld83_2 : fldOff Tryz.prog 83 2 = some 2 := by kernel_rfl
theorem ty_mk145 : mkT Tryz.prog 145 = some (164, 3, 24) := by kernel_rfl
theorem ty_mk152 : mkT Tryz.prog 152 = some (77, 1, 8) := by kernel_rfl
theorem ty_mk32 : mkT Tryz.prog 32 = some (83, 3, 24) := by kernel_rfl
theorem ty_mk46 : mkT Tryz.prog 46 = some (61, 2, 16) := by kernel_rfl
theorem ty_mk54 : mkT Tryz.prog 54 = some (31, 1, 8) := by kernel_rfl
theorem ty_one105 : oneT Tryz.prog 105 = true := by kernel_rfl
theorem ty_one107 : oneT Tryz.prog 107 = true := by kernel_rfl
theorem ty_one109 : oneT Tryz.prog 109 = true := by kernel_rfl
theorem ty_one145 : oneT Tryz.prog 145 = true := by kernel_rfl
theorem ty_one2 : oneT Tryz.prog 2 = true := by kernel_rfl
theorem ty_one25 : oneT Tryz.prog 25 = true := by kernel_rfl
theorem ty_one26 : oneT Tryz.prog 26 = true := by kernel_rfl
theorem ty_one29 : oneT Tryz.prog 29 = true := by kernel_rfl
theorem ty_one3 : oneT Tryz.prog 3 = true := by kernel_rfl
theorem ty_one30 : oneT Tryz.prog 30 = true := by kernel_rfl
theorem ty_one31 : oneT Tryz.prog 31 = true := by kernel_rfl
theorem ty_one32 : oneT Tryz.prog 32 = true := by kernel_rfl
theorem ty_one38 : oneT Tryz.prog 38 = true := by kernel_rfl
theorem ty_one4 : oneT Tryz.prog 4 = true := by kernel_rfl
theorem ty_one40 : oneT Tryz.prog 40 = true := by kernel_rfl
theorem ty_one46 : oneT Tryz.prog 46 = true := by kernel_rfl
theorem ty_one5 : oneT Tryz.prog 5 = true := by kernel_rfl
theorem ty_one74 : oneT Tryz.prog 74 = true := by kernel_rfl
theorem ty_one77 : oneT Tryz.prog 77 = true := by kernel_rfl
theorem ty_pl112 : plT Tryz.prog 112 = some [(0, 1), (1, 1)] := by kernel_rfl
theorem ty_pl117 : plT Tryz.prog 117 = some [(0, 1), (1, 1), (2, 1), (3, 1), (4, 1), (5, 1), (6, 129)] := by kernel_rfl
theorem ty_pl120 : plT Tryz.prog 120 = some [(0, 1), (1, 1), (2, 1), (3, 2160), (2163, 12), (2175, 1), (2176, 1)] := by kernel_rfl
theorem ty_pl131 : plT Tryz.prog 131 = some [(0, 1), (1, 320)] := by kernel_rfl
theorem ty_pl136 : plT Tryz.prog 136 = some [(0, 1), (1, 1), (2, 1), (3, 1), (4, 1), (5, 1), (6, 1), (7, 1)] := by kernel_rfl
theorem ty_pl147 : plT Tryz.prog 147 = some [(0, 1), (1, 1), (2, 1)] := by kernel_rfl
theorem ty_pl149 : plT Tryz.prog 149 = some [(0, 320), (320, 20)] := by kernel_rfl
theorem ty_pl164 : plT Tryz.prog 164 = some [(0, 1), (1, 1), (2, 1)] := by kernel_rfl
theorem ty_pl34 : plT Tryz.prog 34 = some [(0, 1), (1, 1), (2, 1)] := by kernel_rfl
theorem ty_pl36 : plT Tryz.prog 36 = some [(0, 5), (5, 1), (6, 1), (7, 3)] := by kernel_rfl
theorem ty_pl42 : plT Tryz.prog 42 = some [(0, 1), (1, 1), (2, 1), (3, 1), (4, 1), (5, 1)] := by kernel_rfl
theorem ty_pl44 : plT Tryz.prog 44 = some [(0, 1), (1, 1), (2, 1), (3, 1), (4, 1), (5, 1), (6, 1), (7, 1), (8, 1), (9, 1), (10, 1), (11, 1), (12, 1), (13, 1), (14, 1), (15, 1), (16, 1), (17, 1), (18, 1), (19, 1)] := by kernel_rfl
theorem ty_pl50 : plT Tryz.prog 50 = some [(0, 1), (1, 1), (2, 1), (3, 96), (99, 320), (419, 320), (739, 20), (759, 12)] := by kernel_rfl
theorem ty_pl61 : plT Tryz.prog 61 = some [(0, 1), (1, 1)] := by kernel_rfl
theorem ty_pl81 : plT Tryz.prog 81 = some [(0, 1), (1, 1), (2, 1), (3, 1), (4, 1), (5, 1), (6, 1), (7, 1), (8, 1), (9, 1), (10, 1), (11, 1), (12, 1), (13, 1), (14, 1), (15, 1)] := by kernel_rfl
theorem ty_pl83 : plT Tryz.prog 83 = some [(0, 1), (1, 1), (2, 1)] := by kernel_rfl
theorem ty_sl145 : slT Tryz.prog 145 = some (164, 3) := by kernel_rfl
theorem ty_sl152 : slT Tryz.prog 152 = some (77, 1) := by kernel_rfl
theorem ty_sl22 : slT Tryz.prog 22 = some (28, 5) := by kernel_rfl
theorem ty_sl32 : slT Tryz.prog 32 = some (83, 3) := by kernel_rfl
theorem ty_sl46 : slT Tryz.prog 46 = some (61, 2) := by kernel_rfl
theorem ty_sl54 : slT Tryz.prog 54 = some (31, 1) := by kernel_rfl
theorem ty_uint2 : Program.underlying Tryz.prog 2 = some (.int .i64) := by kernel_rfl
theorem ty_uint25 : Program.underlying Tryz.prog 25 = some (.int .u8) := by kernel_rfl
theorem ty_uint26 : Program.underlying Tryz.prog 26 = some (.int .u64) := by kernel_rfl
theorem ty_usl145 : Program.underlying Tryz.prog 145 = some (.slice 164) := by kernel_rfl
theorem ty_usl152 : Program.underlying Tryz.prog 152 = some (.slice 77) := by kernel_rfl
theorem ty_usl22 : Program.underlying Tryz.prog 22 = some (.slice 28) := by kernel_rfl
theorem ty_usl32 : Program.underlying Tryz.prog 32 = some (.slice 83) := by kernel_rfl
theorem ty_usl46 : Program.underlying Tryz.prog 46 = some (.slice 61) := by kernel_rfl
theorem ty_usl54 : Program.underlying Tryz.prog 54 = some (.slice 31) := by kernel_rfl
theorem ty_ustr9 : Program.underlying Tryz.prog 9 = some .string := by kernel_rfl
theorem ty_zero112 : zeroL Tryz.prog 112 = some [.int .i64 0, .int .u64 0] := by kernel_rfl
theorem ty_zero136 : zeroL Tryz.prog 136 = some [.int .i64 0, .int .i64 0, .int .i64 0, .int .i64 0, .int .i64 0, .int .i64 0, .int .i64 0, .int .i64 0] := by kernel_rfl
theorem ty_zero145 : zeroL Tryz.prog 145 = some [.slice none 0 0] := by kernel_rfl
theorem ty_zero147 : zeroL Tryz.prog 147 = some [.int .u64 0, .int .u64 0, .slice none 0 0] := by kernel_rfl
theorem ty_zero164 : zeroL Tryz.prog 164 = some [.int .u64 0, .int .u64 0, .int .u64 0] := by kernel_rfl
theorem ty_zero28 : zeroL Tryz.prog 28 = some [.int .u8 0, .int .i64 0, .int .i64 0, .int .i64 0, .int .u64 0] := by kernel_rfl
theorem ty_zero31 : zeroL Tryz.prog 31 = some [.int .i64 0] := by kernel_rfl
theorem ty_zero34 : zeroL Tryz.prog 34 = some [.int .i64 0, .int .i64 0, .slice none 0 0] := by kernel_rfl
theorem ty_zero36 : zeroL Tryz.prog 36 = some [.int .u8 0, .int .i64 0, .int .i64 0, .int .i64 0, .int .u64 0, .pointer none, .pointer none, .int .i64 0, .int .i64 0, .slice none 0 0] := by kernel_rfl
theorem ty_zero42 : zeroL Tryz.prog 42 = some [.bool false, .int .u64 0, .int .u64 0, .bool false, .int .u64 0, .int .i64 0] := by kernel_rfl
theorem ty_zero44 : zeroL Tryz.prog 44 = some [.int .i64 0, .int .i64 0, .int .i64 0, .int .i64 0, .int .i64 0, .int .i64 0, .int .i64 0, .int .i64 0, .int .i64 0, .int .i64 0, .int .i64 0, .int .i64 0, .int .i64 0, .int .i64 0, .int .i64 0, .int .i64 0, .int .i64 0, .int .i64 0, .int .i64 0, .int .i64 0] := by kernel_rfl
theorem ty_zero61 : zeroL Tryz.prog 61 = some [.int .i64 0, .int .i64 0] := by kernel_rfl
theorem ty_zero77 : zeroL Tryz.prog 77 = some [.int .i64 0] := by kernel_rfl
theorem ty_zero83 : zeroL Tryz.prog 83 = some [.int .i64 0, .int .u64 0, .int .i64 0] := by kernel_rfl
theorem ty_zeroN195 : zeroL Tryz.prog 195 = some ((List.range 16).map fun _ => .int .u16 0) := by kernel_rfl
theorem ty_zeroN44 : zeroL Tryz.prog 44 = some ((List.range 20).map fun _ => .int .i64 0) := by kernel_rfl
theorem ty_zeroN45 : zeroL Tryz.prog 45 = some ((List.range 320).map fun _ => .int .i64 0) := by kernel_rfl
theorem ty_zeroN76 : zeroL Tryz.prog 76 = some ((List.range 16).map fun _ => .int .i64 0) := by kernel_rfl
theorem ty_zeroN81 : zeroL Tryz.prog 81 = some ((List.range 16).map fun _ => .int .u64 0) := by kernel_rfl
theorem ty_zeroN86 : zeroL Tryz.prog 86 = some ((List.range 16).map fun _ => .bool false) := by kernel_rfl
end Go.Proofs.Qxb6500834aGreatDoor
