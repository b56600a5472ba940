import Derived.Test.Qxb6500841aDoorX19
set_option linter.unusedVariables false
set_option linter.unusedSimpArgs false
set_option maxRecDepth 20000
namespace Go.Proofs.Qxb6500841aDoor
open Go.RowKit Go.E1 Go.Wire
variable {w : World}

theorem ty_leaves : leaves Tryd.prog 6 45 = [(0, 26), (1, 27), (2, 5), (3, 5), (4, 5), (5, 5), (6, 5), (7, 5), (8, 5), (9, 5), (10, 5), (11, 5), (12, 5), (13, 5), (14, 30), (15, 5), (16, 30), (17, 30), (18, 5), (19, 30), (20, 5), (21, 5), (22, 30), (23, 5), (24, 5), (25, 5), (26, 5), (27, 5), (28, 5), (29, 5), (30, 5), (31, 25), (32, 30), (33, 30), (34, 37), (35, 37), (36, 5), (37, 5), (38, 30), (39, 30), (40, 30), (41, 25), (42, 5), (43, 5), (44, 30), (45, 37), (46, 5), (47, 30), (48, 30), (49, 5), (50, 30), (51, 5), (52, 5), (53, 30), (54, 5), (55, 5), (56, 5), (57, 5), (58, 5), (59, 5), (60, 5), (61, 5), (62, 25), (63, 25), (64, 25), (65, 25), (66, 37), (67, 30)] := by kernel_rfl
theorem lv {cs : List Value} (h : Rd Tryd.prog w 45 cs) (o T : Nat) (hm : (([(0, 26), (1, 27), (2, 5), (3, 5), (4, 5), (5, 5), (6, 5), (7, 5), (8, 5), (9, 5), (10, 5), (11, 5), (12, 5), (13, 5), (14, 30), (15, 5), (16, 30), (17, 30), (18, 5), (19, 30), (20, 5), (21, 5), (22, 30), (23, 5), (24, 5), (25, 5), (26, 5), (27, 5), (28, 5), (29, 5), (30, 5), (31, 25), (32, 30), (33, 30), (34, 37), (35, 37), (36, 5), (37, 5), (38, 30), (39, 30), (40, 30), (41, 25), (42, 5), (43, 5), (44, 30), (45, 37), (46, 5), (47, 30), (48, 30), (49, 5), (50, 30), (51, 5), (52, 5), (53, 30), (54, 5), (55, 5), (56, 5), (57, 5), (58, 5), (59, 5), (60, 5), (61, 5), (62, 25), (63, 25), (64, 25), (65, 25), (66, 37), (67, 30)] : List (Nat × Nat)).contains (o, T)) = true) : Rd Tryd.prog w T [nth cs o] :=
  leaves_rd 6 45 cs h (o, T) (by rw [ty_leaves]; exact List.contains_iff_mem.1 hm)
theorem ru8 {x : Int} (h : IntKind.u8.min ≤ x ∧ x ≤ IntKind.u8.max) : 0 ≤ x ∧ x < 256 := by
  have m3 : IntKind.u8.min = 0 := rfl
  have m4 : IntKind.u8.max = 255 := rfl
  omega
theorem ru16 {x : Int} (h : IntKind.u16.min ≤ x ∧ x ≤ IntKind.u16.max) : 0 ≤ x ∧ x < 65536 := by
  have m3 : IntKind.u16.min = 0 := rfl
  have m4 : IntKind.u16.max = 65535 := rfl
  omega
theorem ru32 {x : Int} (h : IntKind.u32.min ≤ x ∧ x ≤ IntKind.u32.max) : 0 ≤ x ∧ x < 4294967296 := by
  have m3 : IntKind.u32.min = 0 := rfl
  have m4 : IntKind.u32.max = 4294967295 := rfl
  omega

def fdOf (cs : List Value) (s1 s2 s3 s4 s5 : SV) : FD := ⟨iv (nth cs 1), fun i => iv (nth cs (2 + i)), fun i => iv (nth cs (15 + i)), fun i => iv (nth cs (32 + i)), fun i => iv (nth cs (42 + i)), fun i => iv (nth cs (46 + i)), s1, s2, s3, s4, s5⟩

theorem cons_eq {a b : Value} {l m : List Value} (h : a = b) (t : l = m) : a :: l = b :: m := by rw [h, t]

structure OpY where
  kd : Int
  f : FD
  d : SV
  off : Int
  val : Int

structure OpYok (w : World) (cs : List Value) (y : OpY) : Prop where
  cell : ∀ k, k < 68 → nth cs k = nth (opC y.kd y.f y.d.v y.off y.val) k
  pre : OpPre w y.kd y.f y.d y.off y.val
  len : y.f.s1.bs.length ≤ 140737488355328 ∧ y.f.s2.bs.length ≤ 140737488355328 ∧ y.f.s3.bs.length ≤ 140737488355328 ∧ y.f.s4.bs.length ≤ 140737488355328 ∧ y.f.s5.bs.length ≤ 140737488355328 ∧ y.d.bs.length ≤ 140737488355328

set_option maxHeartbeats 4000000 in
theorem op_one {cs : List Value} (h : Rd Tryd.prog w 45 cs) : ∃ y, OpYok w cs y := by
  have c0 := rd_iv ty_uint26 (lv h 0 26 (by decide))
  have c1 := rd_iv ty_uint27 (lv h 1 27 (by decide))
  have c2 := rd_iv ty_uint5 (lv h 2 5 (by decide))
  have c3 := rd_iv ty_uint5 (lv h 3 5 (by decide))
  have c4 := rd_iv ty_uint5 (lv h 4 5 (by decide))
  have c5 := rd_iv ty_uint5 (lv h 5 5 (by decide))
  have c6 := rd_iv ty_uint5 (lv h 6 5 (by decide))
  have c7 := rd_iv ty_uint5 (lv h 7 5 (by decide))
  have c8 := rd_iv ty_uint5 (lv h 8 5 (by decide))
  have c9 := rd_iv ty_uint5 (lv h 9 5 (by decide))
  have c10 := rd_iv ty_uint5 (lv h 10 5 (by decide))
  have c11 := rd_iv ty_uint5 (lv h 11 5 (by decide))
  have c12 := rd_iv ty_uint5 (lv h 12 5 (by decide))
  have c13 := rd_iv ty_uint5 (lv h 13 5 (by decide))
  have c14 := rd_iv ty_uint30 (lv h 14 30 (by decide))
  have c15 := rd_iv ty_uint5 (lv h 15 5 (by decide))
  have c16 := rd_iv ty_uint30 (lv h 16 30 (by decide))
  have c17 := rd_iv ty_uint30 (lv h 17 30 (by decide))
  have c18 := rd_iv ty_uint5 (lv h 18 5 (by decide))
  have c19 := rd_iv ty_uint30 (lv h 19 30 (by decide))
  have c20 := rd_iv ty_uint5 (lv h 20 5 (by decide))
  have c21 := rd_iv ty_uint5 (lv h 21 5 (by decide))
  have c22 := rd_iv ty_uint30 (lv h 22 30 (by decide))
  have c23 := rd_iv ty_uint5 (lv h 23 5 (by decide))
  have c24 := rd_iv ty_uint5 (lv h 24 5 (by decide))
  have c25 := rd_iv ty_uint5 (lv h 25 5 (by decide))
  have c26 := rd_iv ty_uint5 (lv h 26 5 (by decide))
  have c27 := rd_iv ty_uint5 (lv h 27 5 (by decide))
  have c28 := rd_iv ty_uint5 (lv h 28 5 (by decide))
  have c29 := rd_iv ty_uint5 (lv h 29 5 (by decide))
  have c30 := rd_iv ty_uint5 (lv h 30 5 (by decide))
  obtain ⟨s1, c31, s1o, s1r, s1l⟩ := rd_bytes ty_usl25 ty_uint5 ty_cells5 ty_bytes5 (by omega) (lv h 31 25 (by decide))
  have c32 := rd_iv ty_uint30 (lv h 32 30 (by decide))
  have c33 := rd_iv ty_uint30 (lv h 33 30 (by decide))
  have c34 := rd_iv ty_uint37 (lv h 34 37 (by decide))
  have c35 := rd_iv ty_uint37 (lv h 35 37 (by decide))
  have c36 := rd_iv ty_uint5 (lv h 36 5 (by decide))
  have c37 := rd_iv ty_uint5 (lv h 37 5 (by decide))
  have c38 := rd_iv ty_uint30 (lv h 38 30 (by decide))
  have c39 := rd_iv ty_uint30 (lv h 39 30 (by decide))
  have c40 := rd_iv ty_uint30 (lv h 40 30 (by decide))
  obtain ⟨s2, c41, s2o, s2r, s2l⟩ := rd_bytes ty_usl25 ty_uint5 ty_cells5 ty_bytes5 (by omega) (lv h 41 25 (by decide))
  have c42 := rd_iv ty_uint5 (lv h 42 5 (by decide))
  have c43 := rd_iv ty_uint5 (lv h 43 5 (by decide))
  have c44 := rd_iv ty_uint30 (lv h 44 30 (by decide))
  have c45 := rd_iv ty_uint37 (lv h 45 37 (by decide))
  have c46 := rd_iv ty_uint5 (lv h 46 5 (by decide))
  have c47 := rd_iv ty_uint30 (lv h 47 30 (by decide))
  have c48 := rd_iv ty_uint30 (lv h 48 30 (by decide))
  have c49 := rd_iv ty_uint5 (lv h 49 5 (by decide))
  have c50 := rd_iv ty_uint30 (lv h 50 30 (by decide))
  have c51 := rd_iv ty_uint5 (lv h 51 5 (by decide))
  have c52 := rd_iv ty_uint5 (lv h 52 5 (by decide))
  have c53 := rd_iv ty_uint30 (lv h 53 30 (by decide))
  have c54 := rd_iv ty_uint5 (lv h 54 5 (by decide))
  have c55 := rd_iv ty_uint5 (lv h 55 5 (by decide))
  have c56 := rd_iv ty_uint5 (lv h 56 5 (by decide))
  have c57 := rd_iv ty_uint5 (lv h 57 5 (by decide))
  have c58 := rd_iv ty_uint5 (lv h 58 5 (by decide))
  have c59 := rd_iv ty_uint5 (lv h 59 5 (by decide))
  have c60 := rd_iv ty_uint5 (lv h 60 5 (by decide))
  have c61 := rd_iv ty_uint5 (lv h 61 5 (by decide))
  obtain ⟨s3, c62, s3o, s3r, s3l⟩ := rd_bytes ty_usl25 ty_uint5 ty_cells5 ty_bytes5 (by omega) (lv h 62 25 (by decide))
  obtain ⟨s4, c63, s4o, s4r, s4l⟩ := rd_bytes ty_usl25 ty_uint5 ty_cells5 ty_bytes5 (by omega) (lv h 63 25 (by decide))
  obtain ⟨s5, c64, s5o, s5r, s5l⟩ := rd_bytes ty_usl25 ty_uint5 ty_cells5 ty_bytes5 (by omega) (lv h 64 25 (by decide))
  obtain ⟨sd, c65, sdo, sdr, sdl⟩ := rd_bytes ty_usl25 ty_uint5 ty_cells5 ty_bytes5 (by omega) (lv h 65 25 (by decide))
  have c66 := rd_iv ty_uint37 (lv h 66 37 (by decide))
  have c67 := rd_iv ty_uint30 (lv h 67 30 (by decide))
  refine ⟨⟨iv (nth cs 0), fdOf cs s1 s2 s3 s4 s5, sd, iv (nth cs 66), iv (nth cs 67)⟩, ⟨fun k hk => ?_, ⟨ru8 c0.2, ru32 c66.2, ru16 c67.2, ru8 c1.2, fun i hi => ?_, ru16 c14.2, ⟨ru8 c15.2, ru16 c16.2, ru16 c17.2, ru8 c18.2, ru16 c19.2, ru8 c20.2, ru8 c21.2, ru16 c22.2, ru8 c23.2, ru8 c24.2, ru8 c25.2, ru8 c26.2, ru8 c27.2, ru8 c28.2, ru8 c29.2, ru8 c30.2⟩, ⟨ru16 c32.2, ru16 c33.2, ru32 c34.2, ru32 c35.2, ru8 c36.2, ru8 c37.2, ru16 c38.2, ru16 c39.2, ru16 c40.2⟩, ⟨ru8 c42.2, ru8 c43.2, ru16 c44.2, ru32 c45.2⟩, ⟨ru8 c46.2, ru16 c47.2, ru16 c48.2, ru8 c49.2, ru16 c50.2, ru8 c51.2, ru8 c52.2, ru16 c53.2, ru8 c54.2, ru8 c55.2, ru8 c56.2, ru8 c57.2, ru8 c58.2, ru8 c59.2, ru8 c60.2, ru8 c61.2⟩, s1o, s2o, s3o, s4o, s5o, sdo, ⟨s1r, s2r, s3r, s4r, s5r⟩, sdr⟩, s1l, s2l, s3l, s4l, s5l, sdl⟩⟩
  · have e : (List.range 68).map (nth cs) = opC (iv (nth cs 0)) (fdOf cs s1 s2 s3 s4 s5) sd.v (iv (nth cs 66)) (iv (nth cs 67)) := cons_eq c0.1 (cons_eq c1.1 (cons_eq c2.1 (cons_eq c3.1 (cons_eq c4.1 (cons_eq c5.1 (cons_eq c6.1 (cons_eq c7.1 (cons_eq c8.1 (cons_eq c9.1 (cons_eq c10.1 (cons_eq c11.1 (cons_eq c12.1 (cons_eq c13.1 (cons_eq c14.1 (cons_eq c15.1 (cons_eq c16.1 (cons_eq c17.1 (cons_eq c18.1 (cons_eq c19.1 (cons_eq c20.1 (cons_eq c21.1 (cons_eq c22.1 (cons_eq c23.1 (cons_eq c24.1 (cons_eq c25.1 (cons_eq c26.1 (cons_eq c27.1 (cons_eq c28.1 (cons_eq c29.1 (cons_eq c30.1 (cons_eq c31 (cons_eq c32.1 (cons_eq c33.1 (cons_eq c34.1 (cons_eq c35.1 (cons_eq c36.1 (cons_eq c37.1 (cons_eq c38.1 (cons_eq c39.1 (cons_eq c40.1 (cons_eq c41 (cons_eq c42.1 (cons_eq c43.1 (cons_eq c44.1 (cons_eq c45.1 (cons_eq c46.1 (cons_eq c47.1 (cons_eq c48.1 (cons_eq c49.1 (cons_eq c50.1 (cons_eq c51.1 (cons_eq c52.1 (cons_eq c53.1 (cons_eq c54.1 (cons_eq c55.1 (cons_eq c56.1 (cons_eq c57.1 (cons_eq c58.1 (cons_eq c59.1 (cons_eq c60.1 (cons_eq c61.1 (cons_eq c62 (cons_eq c63 (cons_eq c64 (cons_eq c65 (cons_eq c66.1 (cons_eq c67.1 (rfl))))))))))))))))))))))))))))))))))))))))))))))))))))))))))))))))))))
    refine Eq.trans ?_ (congrArg (fun l => nth l k) e)
    simp [nth, hk]
  · match i, hi with
    | 0, _ => exact ru8 c2.2
    | 1, _ => exact ru8 c3.2
    | 2, _ => exact ru8 c4.2
    | 3, _ => exact ru8 c5.2
    | 4, _ => exact ru8 c6.2
    | 5, _ => exact ru8 c7.2
    | 6, _ => exact ru8 c8.2
    | 7, _ => exact ru8 c9.2
    | 8, _ => exact ru8 c10.2
    | 9, _ => exact ru8 c11.2
    | 10, _ => exact ru8 c12.2
    | 11, _ => exact ru8 c13.2

theorem scr_of {v : Value} (h : Rd Tryd.prog w 22 [v]) : ∃ a n c sb so kd f d off val, v = .slice a n c ∧ n ≤ 140737488355328 ∧ (0 < n → a = some ⟨sb, so, none⟩) ∧ Scr w sb so n kd f d off val ∧
    ∀ i, i < n → (f i).s1.bs.length ≤ 140737488355328 ∧ (f i).s2.bs.length ≤ 140737488355328 ∧ (f i).s3.bs.length ≤ 140737488355328 ∧ (f i).s4.bs.length ≤ 140737488355328 ∧ (f i).s5.bs.length ≤ 140737488355328 ∧ (d i).bs.length ≤ 140737488355328 := by
  obtain ⟨a, n, c, b, o, hv, h1, h2, h3, h4, h5⟩ := rd_slice ty_usl22 (by rw [ty_cells45]; omega) h
  simp only [List.cons.injEq, and_true] at hv
  rw [ty_bytes45] at h3
  have hr : reachBytes = 140737488351232 := rfl
  have hy : ∀ i, ∃ y : OpY, i < n → (∀ k, k < 68 → w.cell? ⟨b, o + i * 68 + k, none⟩ = some (nth (opC y.kd y.f y.d.v y.off y.val) k)) ∧ OpPre w y.kd y.f y.d y.off y.val ∧ (y.f.s1.bs.length ≤ 140737488355328 ∧ y.f.s2.bs.length ≤ 140737488355328 ∧ y.f.s3.bs.length ≤ 140737488355328 ∧ y.f.s4.bs.length ≤ 140737488355328 ∧ y.f.s5.bs.length ≤ 140737488355328 ∧ y.d.bs.length ≤ 140737488355328) := fun i => by
    by_cases hi : i < n
    · obtain ⟨ecs, e1, e2, e3⟩ := h5 i hi
      rw [ty_cells45] at e1 e2
      obtain ⟨y, hy⟩ := op_one e3
      exact ⟨y, fun _ => ⟨fun k hk => by rw [e2 k hk, hy.cell k hk], hy.pre, hy.len⟩⟩
    · exact ⟨⟨0, ⟨0, Z0, Z0, Z0, Z0, Z0, SV.nil, SV.nil, SV.nil, SV.nil, SV.nil⟩, SV.nil, 0, 0⟩, fun h => absurd h hi⟩
  obtain ⟨y, hy⟩ := Classical.skolem.1 hy
  exact ⟨a, n, c, b, o, fun i => (y i).kd, fun i => (y i).f, fun i => (y i).d, fun i => (y i).off, fun i => (y i).val, hv, by omega, h4, ⟨fun i hi => (hy i hi).1, fun i hi => (hy i hi).2.1⟩, fun i hi => (hy i hi).2.2⟩
end Go.Proofs.Qxb6500841aDoor

