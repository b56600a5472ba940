import Derived.Test.Qxb6500834aGreatDoorK30
set_option linter.unusedVariables false
set_option linter.unusedSimpArgs false
set_option maxRecDepth 20000
namespace Go.Kern
open Go Go.RowKit Go.E1
/-- One step of a script. -/
structure Op where
  kind : Nat
  A : Int
  B : Int
  C : Int
  X : Nat
end Go.Kern
namespace Go.Proofs.Qxb6500834aGreatDoor
open Go.RowKit Go.E1 Go.Kern
variable {w0 : World} {L L' l I J K K' X Y : List HI} {w : World} {s : KS} {B : KA} {t r N : Nat}
def opL (o : Kern.Op) : List Value := [.int .u8 (o.kind : Nat), .int .i64 o.A, .int .i64 o.B, .int .i64 o.C, .int .u64 (o.X : Nat)]
abbrev oI (b : Nat) (o : Kern.Op) : HI := (b, Row 28 5 (nth (opL o)))
def stepP (s : KS) (o : Kern.Op) : KS × Int × Int :=
  match o.kind with
  | 0 => ((setModeP s (nameP o.A 4)).1, (setModeP s (nameP o.A 4)).2, -1)
  | 1 => spawnP s
  | 2 => ((declareK s (nameP o.A 16) (nameP o.B 20) (nameP o.C 17)).1, (declareK s (nameP o.A 16) (nameP o.B 20) (nameP o.C 17)).2, -1)
  | 3 => ((acquireP s (nameP o.A 16) (nameP o.B 20) (nameP o.C 17) none).1, (acquireP s (nameP o.A 16) (nameP o.B 20) (nameP o.C 17) none).2, -1)
  | 4 => ((acquireP s (nameP o.A 16) (nameP o.B 20) (nameP o.C 17) (some 0)).1, (acquireP s (nameP o.A 16) (nameP o.B 20) (nameP o.C 17) (some 0)).2, -1)
  | 5 => ((acquireP s (nameP o.A 16) (nameP o.B 20) (nameP o.C 17) (some o.X)).1, (acquireP s (nameP o.A 16) (nameP o.B 20) (nameP o.C 17) (some o.X)).2, -1)
  | 6 => ((releaseP s (nameP o.A 16) (nameP o.B 20)).1, (releaseP s (nameP o.A 16) (nameP o.B 20)).2, -1)
  | 7 => ((writeP s (nameP o.A 16) (nameP o.B 12) o.X).1, (writeP s (nameP o.A 16) (nameP o.B 12) o.X).2, -1)
  | 8 => ((commitP s (nameP o.A 16)).1, (commitP s (nameP o.A 16)).2, -1)
  | 9 => ((exitP s (nameP o.A 16)).1, (exitP s (nameP o.A 16)).2, -1)
  | 10 => (tickP s, 0, -1)
  | 11 => detectP s
  | _ => (s, 6, -1)
theorem nameP_ge {v n : Int} (hn : 0 < n) : -1 ≤ nameP v n ∧ nameP v n < n := by
  unfold nameP
  split <;> omega
theorem KH.one {it : HI} (h : KH w0 B s l w) (hm : it ∈ l) : S0 w0 [it] w := by
  obtain ⟨Y, qv, XQ, tv, ov, V, st⟩ := h.view
  exact st_one st (V.ls hm)
set_option maxHeartbeats 4000000 in
theorem step_ok {o : Kern.Op} (hD : gD w0) (hB : KB N s) (hN : N ≤ 300000) (hnow : s.now < 1000000) (harm : s.armed < 300000) (hbi : s.births < 1000000) (hk : o.kind < 256) (hX : o.X < 18446744073709551616) (st : KH w0 B s l w) :
    Calls Tryz.prog 52 #[.pointer (some ⟨B.bk, 0, none⟩), .agg (opL o).toArray] w (Ret fun v w' => RK w0 B (stepP s o).1 (stepP s o).2.1 (stepP s o).2.2 l v w') := by
  obtain ⟨Y, qv, XQ, tv, ov, V, st⟩ := st.view
  obtain ⟨k, A, Bb, C, x⟩ := o
  dsimp only at hk hX
  have hN20 : N + 20 ≤ 1000000 := by omega
  have hNN : N ≤ 1000000 := by omega
  have hN4 : N ≤ 400000 := by omega
  have harm4 : s.armed ≤ 400000 := by omega
  have hN1 : N + 1 ≤ 1000000 := by omega
  have hnow : s.now < 9223372036854775808 := by omega
  have harm : s.armed < 1000000 := by omega
  have hbi : s.births < 9223372036854775808 := by omega
  obtain ⟨hu1, hu2⟩ := nameP_ge (v := C) (n := 17) (by decide)
  have hu2 : nameP C 17 ≤ 16 := by omega
  by_cases hk0 : k = 0
  · subst hk0
    refine enter [.pointer (some ⟨B.bk, 0, none⟩), .agg #[.int .u8 ((0 : Nat) : Int), .int .i64 A, .int .i64 Bb, .int .i64 C, .int .u64 (x : Nat)]] Tryz.func52 rfl Tryz.ntmps52 rfl ?_
    show WC _ _ _ 96 [] [(0, .pointer (some ⟨B.bk, 0, none⟩)), (1, .agg #[.int .u8 ((0 : Nat) : Int), .int .i64 A, .int .i64 Bb, .int .i64 C, .int .u64 (x : Nat)])] _
    refine WC.seq fun K1163 hK1163 => ?_
    -- region 0
    refine WC.region ?_
    -- R0.0 3 := kernel.go:242 box
    first | refine WL.box (m := 5) (vs := [.int _ _, .int _ _, .int _ _, .int _ _, .int _ _]) st rfl rfl rfl rfl rfl rfl ?_ | refine WL.box (m := 5) (vs := [_, _, _, _, _]) st rfl rfl rfl rfl rfl rfl ?_ | refine WL.box st rfl rfl rfl rfl rfl rfl ?_
    intro b3 w st
    -- R0.1 4 := kernel.go:242 alloc
    refine WL.alloc (m := 3) st ty_zero34 rfl rfl rfl ?_
    intro b4 w st
    refine WL.fin hK1163 (fun _ _ h => h) ?_
    refine WC.seq fun K1164 hK1164 => ?_
    -- region 1
    refine WC.region ?_
    -- R1.0 8 := kernel.go:243 fieldAddr
    refine WL.v (by exact r_field ty_fld28_1 rfl) rfl rfl rfl ?_
    -- R1.1 9 := kernel.go:243 load
    refine WL.v (by exact r_load1 (v := .int .i64 A) ty_one2 rfl (st.drop.c0 (by decide))) rfl rfl rfl ?_
    -- R1.2 10 := kernel.go:243 call
    refine WL.call (r_call ty_call75 rfl) rfl rfl rfl (name_ok A 16 st) ?_
    rintro _ w ⟨rfl, st⟩
    -- R1.3 5 := kernel.go:243 assign
    refine WL.v (by first | exact r_assign (v := .int _ _) rfl | exact r_assign rfl) rfl rfl rfl ?_
    refine WL.fin hK1164 (fun _ _ h => h) ?_
    refine WC.seq fun K1165 hK1165 => ?_
    -- region 2
    refine WC.region ?_
    -- R2.0 11 := kernel.go:244 fieldAddr
    refine WL.v (by exact r_field ty_fld28_2 rfl) rfl rfl rfl ?_
    -- R2.1 12 := kernel.go:244 load
    refine WL.v (by exact r_load1 (v := .int .i64 Bb) ty_one2 rfl (st.drop.c0 (by decide))) rfl rfl rfl ?_
    -- R2.2 13 := kernel.go:244 call
    refine WL.call (r_call ty_call75 rfl) rfl rfl rfl (name_ok Bb 20 st) ?_
    rintro _ w ⟨rfl, st⟩
    -- R2.3 6 := kernel.go:244 assign
    refine WL.v (by first | exact r_assign (v := .int _ _) rfl | exact r_assign rfl) rfl rfl rfl ?_
    refine WL.fin hK1165 (fun _ _ h => h) ?_
    refine WC.seq fun K1166 hK1166 => ?_
    -- region 3
    refine WC.region ?_
    -- R3.0 14 := kernel.go:245 fieldAddr
    refine WL.v (by exact r_field ty_fld28_3 rfl) rfl rfl rfl ?_
    -- R3.1 15 := kernel.go:245 load
    refine WL.v (by exact r_load1 (v := .int .i64 C) ty_one2 rfl (st.drop.c0 (by decide))) rfl rfl rfl ?_
    -- R3.2 16 := kernel.go:245 call
    refine WL.call (r_call ty_call75 rfl) rfl rfl rfl (name_ok C 17 st) ?_
    rintro _ w ⟨rfl, st⟩
    -- R3.3 7 := kernel.go:245 assign
    refine WL.v (by first | exact r_assign (v := .int _ _) rfl | exact r_assign rfl) rfl rfl rfl ?_
    refine WL.fin hK1166 (fun _ _ h => h) ?_
    refine WC.seq fun K1167 hK1167 => ?_
    refine WC.seq fun K1168 hK1168 => ?_
    -- region 4
    refine WC.region ?_
    -- R4.0 17 := kernel.go:246 fieldAddr
    refine WL.v (by exact r_field ty_fld28_0 rfl) rfl rfl rfl ?_
    -- R4.1 18 := kernel.go:246 load
    refine WL.v (by exact r_load1 (v := .int .u8 ((0 : Nat) : Int)) ty_one25 rfl (st.drop.c0 (by decide))) rfl rfl rfl ?_
    refine WL.fin hK1168 (fun _ _ h => h) ?_
    refine WC.block ?_
    refine WC.seq fun K1169 hK1169 => ?_
    -- region 5
    refine WC.region ?_
    -- R5.0 20 := kernel.go:247 binOp
    refine WL.v (by first | exact r_eql rfl rfl (decide_eq_true (by omega)) | exact r_eql rfl rfl (decide_eq_false (by omega)) | exact r_eql rfl rfl rfl) rfl rfl rfl ?_
    -- R5.1 19 := kernel.go:247 assign
    refine WL.v (by first | exact r_assign (v := .bool _) rfl | exact r_assign rfl) rfl rfl rfl ?_
    refine WL.fin hK1169 (fun _ _ h => h) ?_
    refine WC.condT rfl rfl ?_
    refine WC.seq fun K1170 hK1170 => ?_
    -- region 6
    refine WC.region ?_
    -- R6.0 21 := kernel.go:248 move
    refine WL.v (by first | exact r_move (v := .pointer _) rfl | exact r_move rfl) rfl rfl rfl ?_
    -- R6.1 22 := kernel.go:248 fieldAddr
    refine WL.v (by exact r_field ty_fld28_1 rfl) rfl rfl rfl ?_
    -- R6.2 23 := kernel.go:248 load
    refine WL.v (by exact r_load1 (v := .int .i64 A) ty_one2 rfl (st.drop.c0 (by decide))) rfl rfl rfl ?_
    -- R6.3 24 := kernel.go:248 call
    refine WL.call (r_call ty_call75 rfl) rfl rfl rfl (name_ok A 4 st) ?_
    rintro _ w ⟨rfl, st⟩
    -- R6.4 25 := kernel.go:248 call
    have st : KH w0 B s (zR b4 :: oI b3 ⟨0, A, Bb, C, x⟩ :: l) w := V.back (I := [_, _]) st
    refine WL.call (r_call ty_call76 rfl) rfl rfl rfl (setMode_ok st) ?_
    rintro _ w ⟨ovr, XO, hor, rfl, st⟩
    have hone := st.one (it := oI b3 ⟨0, A, Bb, C, x⟩) (by simp)
    obtain ⟨ar, cr, br, rfl, -, -, -, -⟩ := hor.form
    obtain ⟨Yr, st, backr⟩ := KH.out (st.perm (List.perm_append_comm_assoc XO [_] (oI b3 ⟨0, A, Bb, C, x⟩ :: l)))
    -- R6.5 None := kernel.go:248 store
    first | refine WL.storeW (vs := [_, _, _]) st ty_agg34 rfl rfl rfl rfl rfl rfl ?_ | refine WL.storeL (vs := [_, _, _]) st ty_agg34 rfl rfl rfl rfl (by first | decide | omega) rfl rfl ?_ | refine WL.storeW (vs := [_, _, _]) st.front1 ty_agg34 rfl rfl rfl rfl rfl rfl ?_ | refine WL.storeL (vs := [_, _, _]) st.front1 ty_agg34 rfl rfl rfl rfl (by first | decide | omega) rfl rfl ?_ | refine WL.storeW (vs := [_, _, _]) st.front2 ty_agg34 rfl rfl rfl rfl rfl rfl ?_ | refine WL.storeL (vs := [_, _, _]) st.front2 ty_agg34 rfl rfl rfl rfl (by first | decide | omega) rfl rfl ?_ | refine WL.storeW (vs := [_, _, _]) st.front3 ty_agg34 rfl rfl rfl rfl rfl rfl ?_ | refine WL.storeL (vs := [_, _, _]) st.front3 ty_agg34 rfl rfl rfl rfl (by first | decide | omega) rfl rfl ?_ | refine WL.storeW (vs := [_, _, _]) st.front4 ty_agg34 rfl rfl rfl rfl rfl rfl ?_ | refine WL.storeL (vs := [_, _, _]) st.front4 ty_agg34 rfl rfl rfl rfl (by first | decide | omega) rfl rfl ?_ | refine WL.storeW (vs := [_, _, _]) st.front5 ty_agg34 rfl rfl rfl rfl rfl rfl ?_ | refine WL.storeL (vs := [_, _, _]) st.front5 ty_agg34 rfl rfl rfl rfl (by first | decide | omega) rfl rfl ?_ | refine WL.storeW (vs := [_, _, _]) st.front6 ty_agg34 rfl rfl rfl rfl rfl rfl ?_ | refine WL.storeL (vs := [_, _, _]) st.front6 ty_agg34 rfl rfl rfl rfl (by first | decide | omega) rfl rfl ?_ | refine WL.storeW (vs := [_, _, _]) st.front7 ty_agg34 rfl rfl rfl rfl rfl rfl ?_ | refine WL.storeL (vs := [_, _, _]) st.front7 ty_agg34 rfl rfl rfl rfl (by first | decide | omega) rfl rfl ?_ | refine WL.storeW (vs := [_, _, _]) st.front8 ty_agg34 rfl rfl rfl rfl rfl rfl ?_ | refine WL.storeL (vs := [_, _, _]) st.front8 ty_agg34 rfl rfl rfl rfl (by first | decide | omega) rfl rfl ?_
    intro w st
    refine WL.fin hK1170 (fun _ _ h => h) ?_
    refine WC.retC (vs := [_, _, _]) Tryz.results52 (fun _ _ h => h) rfl ty_agg34 rfl ⟨(by first | assumption | exact st.c0 (by first | decide | omega) | exact st.c1 (by first | decide | omega) | exact st.c2 (by first | decide | omega) | exact st.c3 (by first | decide | omega) | exact st.c4 (by first | decide | omega) | exact st.c5 (by first | decide | omega) | exact st.c6 (by first | decide | omega) | exact st.c7 (by first | decide | omega) | exact st.c8 (by first | decide | omega)), (by first | assumption | exact st.c0 (by first | decide | omega) | exact st.c1 (by first | decide | omega) | exact st.c2 (by first | decide | omega) | exact st.c3 (by first | decide | omega) | exact st.c4 (by first | decide | omega) | exact st.c5 (by first | decide | omega) | exact st.c6 (by first | decide | omega) | exact st.c7 (by first | decide | omega) | exact st.c8 (by first | decide | omega)), (by first | assumption | exact st.c0 (by first | decide | omega) | exact st.c1 (by first | decide | omega) | exact st.c2 (by first | decide | omega) | exact st.c3 (by first | decide | omega) | exact st.c4 (by first | decide | omega) | exact st.c5 (by first | decide | omega) | exact st.c6 (by first | decide | omega) | exact st.c7 (by first | decide | omega) | exact st.c8 (by first | decide | omega)), trivial⟩ ?_
    exact ⟨_, rfl, _, XO, hor, rfl, (backr st).drop.sub ((List.sublist_cons_self _ _).append_left _)⟩
  by_cases hk1 : k = 1
  · subst hk1
    refine enter [.pointer (some ⟨B.bk, 0, none⟩), .agg #[.int .u8 ((1 : Nat) : Int), .int .i64 A, .int .i64 Bb, .int .i64 C, .int .u64 (x : Nat)]] Tryz.func52 rfl Tryz.ntmps52 rfl ?_
    show WC _ _ _ 96 [] [(0, .pointer (some ⟨B.bk, 0, none⟩)), (1, .agg #[.int .u8 ((1 : Nat) : Int), .int .i64 A, .int .i64 Bb, .int .i64 C, .int .u64 (x : Nat)])] _
    refine WC.seq fun K1171 hK1171 => ?_
    -- region 0
    refine WC.region ?_
    -- R0.0 3 := kernel.go:242 box
    first | refine WL.box (m := 5) (vs := [.int _ _, .int _ _, .int _ _, .int _ _, .int _ _]) st rfl rfl rfl rfl rfl rfl ?_ | refine WL.box (m := 5) (vs := [_, _, _, _, _]) st rfl rfl rfl rfl rfl rfl ?_ | refine WL.box st rfl rfl rfl rfl rfl rfl ?_
    intro b3 w st
    -- R0.1 4 := kernel.go:242 alloc
    refine WL.alloc (m := 3) st ty_zero34 rfl rfl rfl ?_
    intro b4 w st
    refine WL.fin hK1171 (fun _ _ h => h) ?_
    refine WC.seq fun K1172 hK1172 => ?_
    -- region 1
    refine WC.region ?_
    -- R1.0 8 := kernel.go:243 fieldAddr
    refine WL.v (by exact r_field ty_fld28_1 rfl) rfl rfl rfl ?_
    -- R1.1 9 := kernel.go:243 load
    refine WL.v (by exact r_load1 (v := .int .i64 A) ty_one2 rfl (st.drop.c0 (by decide))) rfl rfl rfl ?_
    -- R1.2 10 := kernel.go:243 call
    refine WL.call (r_call ty_call75 rfl) rfl rfl rfl (name_ok A 16 st) ?_
    rintro _ w ⟨rfl, st⟩
    -- R1.3 5 := kernel.go:243 assign
    refine WL.v (by first | exact r_assign (v := .int _ _) rfl | exact r_assign rfl) rfl rfl rfl ?_
    refine WL.fin hK1172 (fun _ _ h => h) ?_
    refine WC.seq fun K1173 hK1173 => ?_
    -- region 2
    refine WC.region ?_
    -- R2.0 11 := kernel.go:244 fieldAddr
    refine WL.v (by exact r_field ty_fld28_2 rfl) rfl rfl rfl ?_
    -- R2.1 12 := kernel.go:244 load
    refine WL.v (by exact r_load1 (v := .int .i64 Bb) ty_one2 rfl (st.drop.c0 (by decide))) rfl rfl rfl ?_
    -- R2.2 13 := kernel.go:244 call
    refine WL.call (r_call ty_call75 rfl) rfl rfl rfl (name_ok Bb 20 st) ?_
    rintro _ w ⟨rfl, st⟩
    -- R2.3 6 := kernel.go:244 assign
    refine WL.v (by first | exact r_assign (v := .int _ _) rfl | exact r_assign rfl) rfl rfl rfl ?_
    refine WL.fin hK1173 (fun _ _ h => h) ?_
    refine WC.seq fun K1174 hK1174 => ?_
    -- region 3
    refine WC.region ?_
    -- R3.0 14 := kernel.go:245 fieldAddr
    refine WL.v (by exact r_field ty_fld28_3 rfl) rfl rfl rfl ?_
    -- R3.1 15 := kernel.go:245 load
    refine WL.v (by exact r_load1 (v := .int .i64 C) ty_one2 rfl (st.drop.c0 (by decide))) rfl rfl rfl ?_
    -- R3.2 16 := kernel.go:245 call
    refine WL.call (r_call ty_call75 rfl) rfl rfl rfl (name_ok C 17 st) ?_
    rintro _ w ⟨rfl, st⟩
    -- R3.3 7 := kernel.go:245 assign
    refine WL.v (by first | exact r_assign (v := .int _ _) rfl | exact r_assign rfl) rfl rfl rfl ?_
    refine WL.fin hK1174 (fun _ _ h => h) ?_
    refine WC.seq fun K1175 hK1175 => ?_
    refine WC.seq fun K1176 hK1176 => ?_
    -- region 4
    refine WC.region ?_
    -- R4.0 17 := kernel.go:246 fieldAddr
    refine WL.v (by exact r_field ty_fld28_0 rfl) rfl rfl rfl ?_
    -- R4.1 18 := kernel.go:246 load
    refine WL.v (by exact r_load1 (v := .int .u8 ((1 : Nat) : Int)) ty_one25 rfl (st.drop.c0 (by decide))) rfl rfl rfl ?_
    refine WL.fin hK1176 (fun _ _ h => h) ?_
    refine WC.block ?_
    refine WC.seq fun K1177 hK1177 => ?_
    -- region 5
    refine WC.region ?_
    -- R5.0 20 := kernel.go:247 binOp
    refine WL.v (by first | exact r_eql rfl rfl (decide_eq_true (by omega)) | exact r_eql rfl rfl (decide_eq_false (by omega)) | exact r_eql rfl rfl rfl) rfl rfl rfl ?_
    -- R5.1 19 := kernel.go:247 assign
    refine WL.v (by first | exact r_assign (v := .bool _) rfl | exact r_assign rfl) rfl rfl rfl ?_
    refine WL.fin hK1177 (fun _ _ h => h) ?_
    refine WC.condF rfl rfl ?_
    refine WC.seq fun K1178 hK1178 => ?_
    -- region 7
    refine WC.region ?_
    -- R7.0 27 := kernel.go:249 binOp
    refine WL.v (by first | exact r_eql rfl rfl (decide_eq_true (by omega)) | exact r_eql rfl rfl (decide_eq_false (by omega)) | exact r_eql rfl rfl rfl) rfl rfl rfl ?_
    -- R7.1 26 := kernel.go:249 assign
    refine WL.v (by first | exact r_assign (v := .bool _) rfl | exact r_assign rfl) rfl rfl rfl ?_
    refine WL.fin hK1178 (fun _ _ h => h) ?_
    refine WC.condT rfl rfl ?_
    refine WC.seq fun K1179 hK1179 => ?_
    -- region 8
    refine WC.region ?_
    -- R8.0 28 := kernel.go:250 move
    refine WL.v (by first | exact r_move (v := .pointer _) rfl | exact r_move rfl) rfl rfl rfl ?_
    -- R8.1 29 := kernel.go:250 call
    have st : KH w0 B s (zR b4 :: oI b3 ⟨1, A, Bb, C, x⟩ :: l) w := V.back (I := [_, _]) st
    refine WL.call (r_call ty_call77 rfl) rfl rfl rfl (spawn_ok hbi st) ?_
    rintro _ w ⟨ovr, XO, hor, rfl, st⟩
    have hone := st.one (it := oI b3 ⟨1, A, Bb, C, x⟩) (by simp)
    obtain ⟨ar, cr, br, rfl, -, -, -, -⟩ := hor.form
    obtain ⟨Yr, st, backr⟩ := KH.out (st.perm (List.perm_append_comm_assoc XO [_] (oI b3 ⟨1, A, Bb, C, x⟩ :: l)))
    -- R8.2 None := kernel.go:250 store
    first | refine WL.storeW (vs := [_, _, _]) st ty_agg34 rfl rfl rfl rfl rfl rfl ?_ | refine WL.storeL (vs := [_, _, _]) st ty_agg34 rfl rfl rfl rfl (by first | decide | omega) rfl rfl ?_ | refine WL.storeW (vs := [_, _, _]) st.front1 ty_agg34 rfl rfl rfl rfl rfl rfl ?_ | refine WL.storeL (vs := [_, _, _]) st.front1 ty_agg34 rfl rfl rfl rfl (by first | decide | omega) rfl rfl ?_ | refine WL.storeW (vs := [_, _, _]) st.front2 ty_agg34 rfl rfl rfl rfl rfl rfl ?_ | refine WL.storeL (vs := [_, _, _]) st.front2 ty_agg34 rfl rfl rfl rfl (by first | decide | omega) rfl rfl ?_ | refine WL.storeW (vs := [_, _, _]) st.front3 ty_agg34 rfl rfl rfl rfl rfl rfl ?_ | refine WL.storeL (vs := [_, _, _]) st.front3 ty_agg34 rfl rfl rfl rfl (by first | decide | omega) rfl rfl ?_ | refine WL.storeW (vs := [_, _, _]) st.front4 ty_agg34 rfl rfl rfl rfl rfl rfl ?_ | refine WL.storeL (vs := [_, _, _]) st.front4 ty_agg34 rfl rfl rfl rfl (by first | decide | omega) rfl rfl ?_ | refine WL.storeW (vs := [_, _, _]) st.front5 ty_agg34 rfl rfl rfl rfl rfl rfl ?_ | refine WL.storeL (vs := [_, _, _]) st.front5 ty_agg34 rfl rfl rfl rfl (by first | decide | omega) rfl rfl ?_ | refine WL.storeW (vs := [_, _, _]) st.front6 ty_agg34 rfl rfl rfl rfl rfl rfl ?_ | refine WL.storeL (vs := [_, _, _]) st.front6 ty_agg34 rfl rfl rfl rfl (by first | decide | omega) rfl rfl ?_ | refine WL.storeW (vs := [_, _, _]) st.front7 ty_agg34 rfl rfl rfl rfl rfl rfl ?_ | refine WL.storeL (vs := [_, _, _]) st.front7 ty_agg34 rfl rfl rfl rfl (by first | decide | omega) rfl rfl ?_ | refine WL.storeW (vs := [_, _, _]) st.front8 ty_agg34 rfl rfl rfl rfl rfl rfl ?_ | refine WL.storeL (vs := [_, _, _]) st.front8 ty_agg34 rfl rfl rfl rfl (by first | decide | omega) rfl rfl ?_
    intro w st
    refine WL.fin hK1179 (fun _ _ h => h) ?_
    refine WC.retC (vs := [_, _, _]) Tryz.results52 (fun _ _ h => h) rfl ty_agg34 rfl ⟨(by first | assumption | exact st.c0 (by first | decide | omega) | exact st.c1 (by first | decide | omega) | exact st.c2 (by first | decide | omega) | exact st.c3 (by first | decide | omega) | exact st.c4 (by first | decide | omega) | exact st.c5 (by first | decide | omega) | exact st.c6 (by first | decide | omega) | exact st.c7 (by first | decide | omega) | exact st.c8 (by first | decide | omega)), (by first | assumption | exact st.c0 (by first | decide | omega) | exact st.c1 (by first | decide | omega) | exact st.c2 (by first | decide | omega) | exact st.c3 (by first | decide | omega) | exact st.c4 (by first | decide | omega) | exact st.c5 (by first | decide | omega) | exact st.c6 (by first | decide | omega) | exact st.c7 (by first | decide | omega) | exact st.c8 (by first | decide | omega)), (by first | assumption | exact st.c0 (by first | decide | omega) | exact st.c1 (by first | decide | omega) | exact st.c2 (by first | decide | omega) | exact st.c3 (by first | decide | omega) | exact st.c4 (by first | decide | omega) | exact st.c5 (by first | decide | omega) | exact st.c6 (by first | decide | omega) | exact st.c7 (by first | decide | omega) | exact st.c8 (by first | decide | omega)), trivial⟩ ?_
    exact ⟨_, rfl, _, XO, hor, rfl, (backr st).drop.sub ((List.sublist_cons_self _ _).append_left _)⟩
  by_cases hk2 : k = 2
  · subst hk2
    refine enter [.pointer (some ⟨B.bk, 0, none⟩), .agg #[.int .u8 ((2 : Nat) : Int), .int .i64 A, .int .i64 Bb, .int .i64 C, .int .u64 (x : Nat)]] Tryz.func52 rfl Tryz.ntmps52 rfl ?_
    show WC _ _ _ 96 [] [(0, .pointer (some ⟨B.bk, 0, none⟩)), (1, .agg #[.int .u8 ((2 : Nat) : Int), .int .i64 A, .int .i64 Bb, .int .i64 C, .int .u64 (x : Nat)])] _
    refine WC.seq fun K1180 hK1180 => ?_
    -- region 0
    refine WC.region ?_
    -- R0.0 3 := kernel.go:242 box
    first | refine WL.box (m := 5) (vs := [.int _ _, .int _ _, .int _ _, .int _ _, .int _ _]) st rfl rfl rfl rfl rfl rfl ?_ | refine WL.box (m := 5) (vs := [_, _, _, _, _]) st rfl rfl rfl rfl rfl rfl ?_ | refine WL.box st rfl rfl rfl rfl rfl rfl ?_
    intro b3 w st
    -- R0.1 4 := kernel.go:242 alloc
    refine WL.alloc (m := 3) st ty_zero34 rfl rfl rfl ?_
    intro b4 w st
    refine WL.fin hK1180 (fun _ _ h => h) ?_
    refine WC.seq fun K1181 hK1181 => ?_
    -- region 1
    refine WC.region ?_
    -- R1.0 8 := kernel.go:243 fieldAddr
    refine WL.v (by exact r_field ty_fld28_1 rfl) rfl rfl rfl ?_
    -- R1.1 9 := kernel.go:243 load
    refine WL.v (by exact r_load1 (v := .int .i64 A) ty_one2 rfl (st.drop.c0 (by decide))) rfl rfl rfl ?_
    -- R1.2 10 := kernel.go:243 call
    refine WL.call (r_call ty_call75 rfl) rfl rfl rfl (name_ok A 16 st) ?_
    rintro _ w ⟨rfl, st⟩
    -- R1.3 5 := kernel.go:243 assign
    refine WL.v (by first | exact r_assign (v := .int _ _) rfl | exact r_assign rfl) rfl rfl rfl ?_
    refine WL.fin hK1181 (fun _ _ h => h) ?_
    refine WC.seq fun K1182 hK1182 => ?_
    -- region 2
    refine WC.region ?_
    -- R2.0 11 := kernel.go:244 fieldAddr
    refine WL.v (by exact r_field ty_fld28_2 rfl) rfl rfl rfl ?_
    -- R2.1 12 := kernel.go:244 load
    refine WL.v (by exact r_load1 (v := .int .i64 Bb) ty_one2 rfl (st.drop.c0 (by decide))) rfl rfl rfl ?_
    -- R2.2 13 := kernel.go:244 call
    refine WL.call (r_call ty_call75 rfl) rfl rfl rfl (name_ok Bb 20 st) ?_
    rintro _ w ⟨rfl, st⟩
    -- R2.3 6 := kernel.go:244 assign
    refine WL.v (by first | exact r_assign (v := .int _ _) rfl | exact r_assign rfl) rfl rfl rfl ?_
    refine WL.fin hK1182 (fun _ _ h => h) ?_
    refine WC.seq fun K1183 hK1183 => ?_
    -- region 3
    refine WC.region ?_
    -- R3.0 14 := kernel.go:245 fieldAddr
    refine WL.v (by exact r_field ty_fld28_3 rfl) rfl rfl rfl ?_
    -- R3.1 15 := kernel.go:245 load
    refine WL.v (by exact r_load1 (v := .int .i64 C) ty_one2 rfl (st.drop.c0 (by decide))) rfl rfl rfl ?_
    -- R3.2 16 := kernel.go:245 call
    refine WL.call (r_call ty_call75 rfl) rfl rfl rfl (name_ok C 17 st) ?_
    rintro _ w ⟨rfl, st⟩
    -- R3.3 7 := kernel.go:245 assign
    refine WL.v (by first | exact r_assign (v := .int _ _) rfl | exact r_assign rfl) rfl rfl rfl ?_
    refine WL.fin hK1183 (fun _ _ h => h) ?_
    refine WC.seq fun K1184 hK1184 => ?_
    refine WC.seq fun K1185 hK1185 => ?_
    -- region 4
    refine WC.region ?_
    -- R4.0 17 := kernel.go:246 fieldAddr
    refine WL.v (by exact r_field ty_fld28_0 rfl) rfl rfl rfl ?_
    -- R4.1 18 := kernel.go:246 load
    refine WL.v (by exact r_load1 (v := .int .u8 ((2 : Nat) : Int)) ty_one25 rfl (st.drop.c0 (by decide))) rfl rfl rfl ?_
    refine WL.fin hK1185 (fun _ _ h => h) ?_
    refine WC.block ?_
    refine WC.seq fun K1186 hK1186 => ?_
    -- region 5
    refine WC.region ?_
    -- R5.0 20 := kernel.go:247 binOp
    refine WL.v (by first | exact r_eql rfl rfl (decide_eq_true (by omega)) | exact r_eql rfl rfl (decide_eq_false (by omega)) | exact r_eql rfl rfl rfl) rfl rfl rfl ?_
    -- R5.1 19 := kernel.go:247 assign
    refine WL.v (by first | exact r_assign (v := .bool _) rfl | exact r_assign rfl) rfl rfl rfl ?_
    refine WL.fin hK1186 (fun _ _ h => h) ?_
    refine WC.condF rfl rfl ?_
    refine WC.seq fun K1187 hK1187 => ?_
    -- region 7
    refine WC.region ?_
    -- R7.0 27 := kernel.go:249 binOp
    refine WL.v (by first | exact r_eql rfl rfl (decide_eq_true (by omega)) | exact r_eql rfl rfl (decide_eq_false (by omega)) | exact r_eql rfl rfl rfl) rfl rfl rfl ?_
    -- R7.1 26 := kernel.go:249 assign
    refine WL.v (by first | exact r_assign (v := .bool _) rfl | exact r_assign rfl) rfl rfl rfl ?_
    refine WL.fin hK1187 (fun _ _ h => h) ?_
    refine WC.condF rfl rfl ?_
    refine WC.seq fun K1188 hK1188 => ?_
    -- region 9
    refine WC.region ?_
    -- R9.0 31 := kernel.go:251 binOp
    refine WL.v (by first | exact r_eql rfl rfl (decide_eq_true (by omega)) | exact r_eql rfl rfl (decide_eq_false (by omega)) | exact r_eql rfl rfl rfl) rfl rfl rfl ?_
    -- R9.1 30 := kernel.go:251 assign
    refine WL.v (by first | exact r_assign (v := .bool _) rfl | exact r_assign rfl) rfl rfl rfl ?_
    refine WL.fin hK1188 (fun _ _ h => h) ?_
    refine WC.condT rfl rfl ?_
    refine WC.seq fun K1189 hK1189 => ?_
    -- region 10
    refine WC.region ?_
    -- R10.0 32 := kernel.go:252 move
    refine WL.v (by first | exact r_move (v := .pointer _) rfl | exact r_move rfl) rfl rfl rfl ?_
    -- R10.1 33 := kernel.go:252 move
    refine WL.v (by first | exact r_move (v := .int _ _) rfl | exact r_move rfl) rfl rfl rfl ?_
    -- R10.2 34 := kernel.go:252 move
    refine WL.v (by first | exact r_move (v := .int _ _) rfl | exact r_move rfl) rfl rfl rfl ?_
    -- R10.3 35 := kernel.go:252 move
    refine WL.v (by first | exact r_move (v := .int _ _) rfl | exact r_move rfl) rfl rfl rfl ?_
    -- R10.4 36 := kernel.go:252 call
    have st : KH w0 B s (zR b4 :: oI b3 ⟨2, A, Bb, C, x⟩ :: l) w := V.back (I := [_, _]) st
    refine WL.call (r_call ty_call78 rfl) rfl rfl rfl (declare_ok st) ?_
    rintro _ w ⟨ovr, XO, hor, rfl, st⟩
    have hone := st.one (it := oI b3 ⟨2, A, Bb, C, x⟩) (by simp)
    obtain ⟨ar, cr, br, rfl, -, -, -, -⟩ := hor.form
    obtain ⟨Yr, st, backr⟩ := KH.out (st.perm (List.perm_append_comm_assoc XO [_] (oI b3 ⟨2, A, Bb, C, x⟩ :: l)))
    -- R10.5 None := kernel.go:252 store
    first | refine WL.storeW (vs := [_, _, _]) st ty_agg34 rfl rfl rfl rfl rfl rfl ?_ | refine WL.storeL (vs := [_, _, _]) st ty_agg34 rfl rfl rfl rfl (by first | decide | omega) rfl rfl ?_ | refine WL.storeW (vs := [_, _, _]) st.front1 ty_agg34 rfl rfl rfl rfl rfl rfl ?_ | refine WL.storeL (vs := [_, _, _]) st.front1 ty_agg34 rfl rfl rfl rfl (by first | decide | omega) rfl rfl ?_ | refine WL.storeW (vs := [_, _, _]) st.front2 ty_agg34 rfl rfl rfl rfl rfl rfl ?_ | refine WL.storeL (vs := [_, _, _]) st.front2 ty_agg34 rfl rfl rfl rfl (by first | decide | omega) rfl rfl ?_ | refine WL.storeW (vs := [_, _, _]) st.front3 ty_agg34 rfl rfl rfl rfl rfl rfl ?_ | refine WL.storeL (vs := [_, _, _]) st.front3 ty_agg34 rfl rfl rfl rfl (by first | decide | omega) rfl rfl ?_ | refine WL.storeW (vs := [_, _, _]) st.front4 ty_agg34 rfl rfl rfl rfl rfl rfl ?_ | refine WL.storeL (vs := [_, _, _]) st.front4 ty_agg34 rfl rfl rfl rfl (by first | decide | omega) rfl rfl ?_ | refine WL.storeW (vs := [_, _, _]) st.front5 ty_agg34 rfl rfl rfl rfl rfl rfl ?_ | refine WL.storeL (vs := [_, _, _]) st.front5 ty_agg34 rfl rfl rfl rfl (by first | decide | omega) rfl rfl ?_ | refine WL.storeW (vs := [_, _, _]) st.front6 ty_agg34 rfl rfl rfl rfl rfl rfl ?_ | refine WL.storeL (vs := [_, _, _]) st.front6 ty_agg34 rfl rfl rfl rfl (by first | decide | omega) rfl rfl ?_ | refine WL.storeW (vs := [_, _, _]) st.front7 ty_agg34 rfl rfl rfl rfl rfl rfl ?_ | refine WL.storeL (vs := [_, _, _]) st.front7 ty_agg34 rfl rfl rfl rfl (by first | decide | omega) rfl rfl ?_ | refine WL.storeW (vs := [_, _, _]) st.front8 ty_agg34 rfl rfl rfl rfl rfl rfl ?_ | refine WL.storeL (vs := [_, _, _]) st.front8 ty_agg34 rfl rfl rfl rfl (by first | decide | omega) rfl rfl ?_
    intro w st
    refine WL.fin hK1189 (fun _ _ h => h) ?_
    refine WC.retC (vs := [_, _, _]) Tryz.results52 (fun _ _ h => h) rfl ty_agg34 rfl ⟨(by first | assumption | exact st.c0 (by first | decide | omega) | exact st.c1 (by first | decide | omega) | exact st.c2 (by first | decide | omega) | exact st.c3 (by first | decide | omega) | exact st.c4 (by first | decide | omega) | exact st.c5 (by first | decide | omega) | exact st.c6 (by first | decide | omega) | exact st.c7 (by first | decide | omega) | exact st.c8 (by first | decide | omega)), (by first | assumption | exact st.c0 (by first | decide | omega) | exact st.c1 (by first | decide | omega) | exact st.c2 (by first | decide | omega) | exact st.c3 (by first | decide | omega) | exact st.c4 (by first | decide | omega) | exact st.c5 (by first | decide | omega) | exact st.c6 (by first | decide | omega) | exact st.c7 (by first | decide | omega) | exact st.c8 (by first | decide | omega)), (by first | assumption | exact st.c0 (by first | decide | omega) | exact st.c1 (by first | decide | omega) | exact st.c2 (by first | decide | omega) | exact st.c3 (by first | decide | omega) | exact st.c4 (by first | decide | omega) | exact st.c5 (by first | decide | omega) | exact st.c6 (by first | decide | omega) | exact st.c7 (by first | decide | omega) | exact st.c8 (by first | decide | omega)), trivial⟩ ?_
    exact ⟨_, rfl, _, XO, hor, rfl, (backr st).drop.sub ((List.sublist_cons_self _ _).append_left _)⟩
  by_cases hk3 : k = 3
  · subst hk3
    refine enter [.pointer (some ⟨B.bk, 0, none⟩), .agg #[.int .u8 ((3 : Nat) : Int), .int .i64 A, .int .i64 Bb, .int .i64 C, .int .u64 (x : Nat)]] Tryz.func52 rfl Tryz.ntmps52 rfl ?_
    show WC _ _ _ 96 [] [(0, .pointer (some ⟨B.bk, 0, none⟩)), (1, .agg #[.int .u8 ((3 : Nat) : Int), .int .i64 A, .int .i64 Bb, .int .i64 C, .int .u64 (x : Nat)])] _
    refine WC.seq fun K1190 hK1190 => ?_
    -- region 0
    refine WC.region ?_
    -- R0.0 3 := kernel.go:242 box
    first | refine WL.box (m := 5) (vs := [.int _ _, .int _ _, .int _ _, .int _ _, .int _ _]) st rfl rfl rfl rfl rfl rfl ?_ | refine WL.box (m := 5) (vs := [_, _, _, _, _]) st rfl rfl rfl rfl rfl rfl ?_ | refine WL.box st rfl rfl rfl rfl rfl rfl ?_
    intro b3 w st
    -- R0.1 4 := kernel.go:242 alloc
    refine WL.alloc (m := 3) st ty_zero34 rfl rfl rfl ?_
    intro b4 w st
    refine WL.fin hK1190 (fun _ _ h => h) ?_
    refine WC.seq fun K1191 hK1191 => ?_
    -- region 1
    refine WC.region ?_
    -- R1.0 8 := kernel.go:243 fieldAddr
    refine WL.v (by exact r_field ty_fld28_1 rfl) rfl rfl rfl ?_
    -- R1.1 9 := kernel.go:243 load
    refine WL.v (by exact r_load1 (v := .int .i64 A) ty_one2 rfl (st.drop.c0 (by decide))) rfl rfl rfl ?_
    -- R1.2 10 := kernel.go:243 call
    refine WL.call (r_call ty_call75 rfl) rfl rfl rfl (name_ok A 16 st) ?_
    rintro _ w ⟨rfl, st⟩
    -- R1.3 5 := kernel.go:243 assign
    refine WL.v (by first | exact r_assign (v := .int _ _) rfl | exact r_assign rfl) rfl rfl rfl ?_
    refine WL.fin hK1191 (fun _ _ h => h) ?_
    refine WC.seq fun K1192 hK1192 => ?_
    -- region 2
    refine WC.region ?_
    -- R2.0 11 := kernel.go:244 fieldAddr
    refine WL.v (by exact r_field ty_fld28_2 rfl) rfl rfl rfl ?_
    -- R2.1 12 := kernel.go:244 load
    refine WL.v (by exact r_load1 (v := .int .i64 Bb) ty_one2 rfl (st.drop.c0 (by decide))) rfl rfl rfl ?_
    -- R2.2 13 := kernel.go:244 call
    refine WL.call (r_call ty_call75 rfl) rfl rfl rfl (name_ok Bb 20 st) ?_
    rintro _ w ⟨rfl, st⟩
    -- R2.3 6 := kernel.go:244 assign
    refine WL.v (by first | exact r_assign (v := .int _ _) rfl | exact r_assign rfl) rfl rfl rfl ?_
    refine WL.fin hK1192 (fun _ _ h => h) ?_
    refine WC.seq fun K1193 hK1193 => ?_
    -- region 3
    refine WC.region ?_
    -- R3.0 14 := kernel.go:245 fieldAddr
    refine WL.v (by exact r_field ty_fld28_3 rfl) rfl rfl rfl ?_
    -- R3.1 15 := kernel.go:245 load
    refine WL.v (by exact r_load1 (v := .int .i64 C) ty_one2 rfl (st.drop.c0 (by decide))) rfl rfl rfl ?_
    -- R3.2 16 := kernel.go:245 call
    refine WL.call (r_call ty_call75 rfl) rfl rfl rfl (name_ok C 17 st) ?_
    rintro _ w ⟨rfl, st⟩
    -- R3.3 7 := kernel.go:245 assign
    refine WL.v (by first | exact r_assign (v := .int _ _) rfl | exact r_assign rfl) rfl rfl rfl ?_
    refine WL.fin hK1193 (fun _ _ h => h) ?_
    refine WC.seq fun K1194 hK1194 => ?_
    refine WC.seq fun K1195 hK1195 => ?_
    -- region 4
    refine WC.region ?_
    -- R4.0 17 := kernel.go:246 fieldAddr
    refine WL.v (by exact r_field ty_fld28_0 rfl) rfl rfl rfl ?_
    -- R4.1 18 := kernel.go:246 load
    refine WL.v (by exact r_load1 (v := .int .u8 ((3 : Nat) : Int)) ty_one25 rfl (st.drop.c0 (by decide))) rfl rfl rfl ?_
    refine WL.fin hK1195 (fun _ _ h => h) ?_
    refine WC.block ?_
    refine WC.seq fun K1196 hK1196 => ?_
    -- region 5
    refine WC.region ?_
    -- R5.0 20 := kernel.go:247 binOp
    refine WL.v (by first | exact r_eql rfl rfl (decide_eq_true (by omega)) | exact r_eql rfl rfl (decide_eq_false (by omega)) | exact r_eql rfl rfl rfl) rfl rfl rfl ?_
    -- R5.1 19 := kernel.go:247 assign
    refine WL.v (by first | exact r_assign (v := .bool _) rfl | exact r_assign rfl) rfl rfl rfl ?_
    refine WL.fin hK1196 (fun _ _ h => h) ?_
    refine WC.condF rfl rfl ?_
    refine WC.seq fun K1197 hK1197 => ?_
    -- region 7
    refine WC.region ?_
    -- R7.0 27 := kernel.go:249 binOp
    refine WL.v (by first | exact r_eql rfl rfl (decide_eq_true (by omega)) | exact r_eql rfl rfl (decide_eq_false (by omega)) | exact r_eql rfl rfl rfl) rfl rfl rfl ?_
    -- R7.1 26 := kernel.go:249 assign
    refine WL.v (by first | exact r_assign (v := .bool _) rfl | exact r_assign rfl) rfl rfl rfl ?_
    refine WL.fin hK1197 (fun _ _ h => h) ?_
    refine WC.condF rfl rfl ?_
    refine WC.seq fun K1198 hK1198 => ?_
    -- region 9
    refine WC.region ?_
    -- R9.0 31 := kernel.go:251 binOp
    refine WL.v (by first | exact r_eql rfl rfl (decide_eq_true (by omega)) | exact r_eql rfl rfl (decide_eq_false (by omega)) | exact r_eql rfl rfl rfl) rfl rfl rfl ?_
    -- R9.1 30 := kernel.go:251 assign
    refine WL.v (by first | exact r_assign (v := .bool _) rfl | exact r_assign rfl) rfl rfl rfl ?_
    refine WL.fin hK1198 (fun _ _ h => h) ?_
    refine WC.condF rfl rfl ?_
    refine WC.seq fun K1199 hK1199 => ?_
    -- region 11
    refine WC.region ?_
    -- R11.0 38 := kernel.go:253 binOp
    refine WL.v (by first | exact r_eql rfl rfl (decide_eq_true (by omega)) | exact r_eql rfl rfl (decide_eq_false (by omega)) | exact r_eql rfl rfl rfl) rfl rfl rfl ?_
    -- R11.1 37 := kernel.go:253 assign
    refine WL.v (by first | exact r_assign (v := .bool _) rfl | exact r_assign rfl) rfl rfl rfl ?_
    refine WL.fin hK1199 (fun _ _ h => h) ?_
    refine WC.condT rfl rfl ?_
    refine WC.seq fun K1200 hK1200 => ?_
    -- region 12
    refine WC.region ?_
    -- R12.0 39 := kernel.go:254 move
    refine WL.v (by first | exact r_move (v := .pointer _) rfl | exact r_move rfl) rfl rfl rfl ?_
    -- R12.1 40 := kernel.go:254 move
    refine WL.v (by first | exact r_move (v := .int _ _) rfl | exact r_move rfl) rfl rfl rfl ?_
    -- R12.2 41 := kernel.go:254 move
    refine WL.v (by first | exact r_move (v := .int _ _) rfl | exact r_move rfl) rfl rfl rfl ?_
    -- R12.3 42 := kernel.go:254 move
    refine WL.v (by first | exact r_move (v := .int _ _) rfl | exact r_move rfl) rfl rfl rfl ?_
    -- R12.4 43 := kernel.go:254 call
    have st : KH w0 B s (zR b4 :: oI b3 ⟨3, A, Bb, C, x⟩ :: l) w := V.back (I := [_, _]) st
    refine WL.call (r_call ty_call79 rfl) rfl rfl rfl (acquire0_ok hD hB hN20 hu1 hu2 hnow harm st) ?_
    rintro _ w ⟨ovr, XO, hor, rfl, st⟩
    have hone := st.one (it := oI b3 ⟨3, A, Bb, C, x⟩) (by simp)
    obtain ⟨ar, cr, br, rfl, -, -, -, -⟩ := hor.form
    obtain ⟨Yr, st, backr⟩ := KH.out (st.perm (List.perm_append_comm_assoc XO [_] (oI b3 ⟨3, A, Bb, C, x⟩ :: l)))
    -- R12.5 None := kernel.go:254 store
    first | refine WL.storeW (vs := [_, _, _]) st ty_agg34 rfl rfl rfl rfl rfl rfl ?_ | refine WL.storeL (vs := [_, _, _]) st ty_agg34 rfl rfl rfl rfl (by first | decide | omega) rfl rfl ?_ | refine WL.storeW (vs := [_, _, _]) st.front1 ty_agg34 rfl rfl rfl rfl rfl rfl ?_ | refine WL.storeL (vs := [_, _, _]) st.front1 ty_agg34 rfl rfl rfl rfl (by first | decide | omega) rfl rfl ?_ | refine WL.storeW (vs := [_, _, _]) st.front2 ty_agg34 rfl rfl rfl rfl rfl rfl ?_ | refine WL.storeL (vs := [_, _, _]) st.front2 ty_agg34 rfl rfl rfl rfl (by first | decide | omega) rfl rfl ?_ | refine WL.storeW (vs := [_, _, _]) st.front3 ty_agg34 rfl rfl rfl rfl rfl rfl ?_ | refine WL.storeL (vs := [_, _, _]) st.front3 ty_agg34 rfl rfl rfl rfl (by first | decide | omega) rfl rfl ?_ | refine WL.storeW (vs := [_, _, _]) st.front4 ty_agg34 rfl rfl rfl rfl rfl rfl ?_ | refine WL.storeL (vs := [_, _, _]) st.front4 ty_agg34 rfl rfl rfl rfl (by first | decide | omega) rfl rfl ?_ | refine WL.storeW (vs := [_, _, _]) st.front5 ty_agg34 rfl rfl rfl rfl rfl rfl ?_ | refine WL.storeL (vs := [_, _, _]) st.front5 ty_agg34 rfl rfl rfl rfl (by first | decide | omega) rfl rfl ?_ | refine WL.storeW (vs := [_, _, _]) st.front6 ty_agg34 rfl rfl rfl rfl rfl rfl ?_ | refine WL.storeL (vs := [_, _, _]) st.front6 ty_agg34 rfl rfl rfl rfl (by first | decide | omega) rfl rfl ?_ | refine WL.storeW (vs := [_, _, _]) st.front7 ty_agg34 rfl rfl rfl rfl rfl rfl ?_ | refine WL.storeL (vs := [_, _, _]) st.front7 ty_agg34 rfl rfl rfl rfl (by first | decide | omega) rfl rfl ?_ | refine WL.storeW (vs := [_, _, _]) st.front8 ty_agg34 rfl rfl rfl rfl rfl rfl ?_ | refine WL.storeL (vs := [_, _, _]) st.front8 ty_agg34 rfl rfl rfl rfl (by first | decide | omega) rfl rfl ?_
    intro w st
    refine WL.fin hK1200 (fun _ _ h => h) ?_
    refine WC.retC (vs := [_, _, _]) Tryz.results52 (fun _ _ h => h) rfl ty_agg34 rfl ⟨(by first | assumption | exact st.c0 (by first | decide | omega) | exact st.c1 (by first | decide | omega) | exact st.c2 (by first | decide | omega) | exact st.c3 (by first | decide | omega) | exact st.c4 (by first | decide | omega) | exact st.c5 (by first | decide | omega) | exact st.c6 (by first | decide | omega) | exact st.c7 (by first | decide | omega) | exact st.c8 (by first | decide | omega)), (by first | assumption | exact st.c0 (by first | decide | omega) | exact st.c1 (by first | decide | omega) | exact st.c2 (by first | decide | omega) | exact st.c3 (by first | decide | omega) | exact st.c4 (by first | decide | omega) | exact st.c5 (by first | decide | omega) | exact st.c6 (by first | decide | omega) | exact st.c7 (by first | decide | omega) | exact st.c8 (by first | decide | omega)), (by first | assumption | exact st.c0 (by first | decide | omega) | exact st.c1 (by first | decide | omega) | exact st.c2 (by first | decide | omega) | exact st.c3 (by first | decide | omega) | exact st.c4 (by first | decide | omega) | exact st.c5 (by first | decide | omega) | exact st.c6 (by first | decide | omega) | exact st.c7 (by first | decide | omega) | exact st.c8 (by first | decide | omega)), trivial⟩ ?_
    exact ⟨_, rfl, _, XO, hor, rfl, (backr st).drop.sub ((List.sublist_cons_self _ _).append_left _)⟩
  by_cases hk4 : k = 4
  · subst hk4
    refine enter [.pointer (some ⟨B.bk, 0, none⟩), .agg #[.int .u8 ((4 : Nat) : Int), .int .i64 A, .int .i64 Bb, .int .i64 C, .int .u64 (x : Nat)]] Tryz.func52 rfl Tryz.ntmps52 rfl ?_
    show WC _ _ _ 96 [] [(0, .pointer (some ⟨B.bk, 0, none⟩)), (1, .agg #[.int .u8 ((4 : Nat) : Int), .int .i64 A, .int .i64 Bb, .int .i64 C, .int .u64 (x : Nat)])] _
    refine WC.seq fun K1201 hK1201 => ?_
    -- region 0
    refine WC.region ?_
    -- R0.0 3 := kernel.go:242 box
    first | refine WL.box (m := 5) (vs := [.int _ _, .int _ _, .int _ _, .int _ _, .int _ _]) st rfl rfl rfl rfl rfl rfl ?_ | refine WL.box (m := 5) (vs := [_, _, _, _, _]) st rfl rfl rfl rfl rfl rfl ?_ | refine WL.box st rfl rfl rfl rfl rfl rfl ?_
    intro b3 w st
    -- R0.1 4 := kernel.go:242 alloc
    refine WL.alloc (m := 3) st ty_zero34 rfl rfl rfl ?_
    intro b4 w st
    refine WL.fin hK1201 (fun _ _ h => h) ?_
    refine WC.seq fun K1202 hK1202 => ?_
    -- region 1
    refine WC.region ?_
    -- R1.0 8 := kernel.go:243 fieldAddr
    refine WL.v (by exact r_field ty_fld28_1 rfl) rfl rfl rfl ?_
    -- R1.1 9 := kernel.go:243 load
    refine WL.v (by exact r_load1 (v := .int .i64 A) ty_one2 rfl (st.drop.c0 (by decide))) rfl rfl rfl ?_
    -- R1.2 10 := kernel.go:243 call
    refine WL.call (r_call ty_call75 rfl) rfl rfl rfl (name_ok A 16 st) ?_
    rintro _ w ⟨rfl, st⟩
    -- R1.3 5 := kernel.go:243 assign
    refine WL.v (by first | exact r_assign (v := .int _ _) rfl | exact r_assign rfl) rfl rfl rfl ?_
    refine WL.fin hK1202 (fun _ _ h => h) ?_
    refine WC.seq fun K1203 hK1203 => ?_
    -- region 2
    refine WC.region ?_
    -- R2.0 11 := kernel.go:244 fieldAddr
    refine WL.v (by exact r_field ty_fld28_2 rfl) rfl rfl rfl ?_
    -- R2.1 12 := kernel.go:244 load
    refine WL.v (by exact r_load1 (v := .int .i64 Bb) ty_one2 rfl (st.drop.c0 (by decide))) rfl rfl rfl ?_
    -- R2.2 13 := kernel.go:244 call
    refine WL.call (r_call ty_call75 rfl) rfl rfl rfl (name_ok Bb 20 st) ?_
    rintro _ w ⟨rfl, st⟩
    -- R2.3 6 := kernel.go:244 assign
    refine WL.v (by first | exact r_assign (v := .int _ _) rfl | exact r_assign rfl) rfl rfl rfl ?_
    refine WL.fin hK1203 (fun _ _ h => h) ?_
    refine WC.seq fun K1204 hK1204 => ?_
    -- region 3
    refine WC.region ?_
    -- R3.0 14 := kernel.go:245 fieldAddr
    refine WL.v (by exact r_field ty_fld28_3 rfl) rfl rfl rfl ?_
    -- R3.1 15 := kernel.go:245 load
    refine WL.v (by exact r_load1 (v := .int .i64 C) ty_one2 rfl (st.drop.c0 (by decide))) rfl rfl rfl ?_
    -- R3.2 16 := kernel.go:245 call
    refine WL.call (r_call ty_call75 rfl) rfl rfl rfl (name_ok C 17 st) ?_
    rintro _ w ⟨rfl, st⟩
    -- R3.3 7 := kernel.go:245 assign
    refine WL.v (by first | exact r_assign (v := .int _ _) rfl | exact r_assign rfl) rfl rfl rfl ?_
    refine WL.fin hK1204 (fun _ _ h => h) ?_
    refine WC.seq fun K1205 hK1205 => ?_
    refine WC.seq fun K1206 hK1206 => ?_
    -- region 4
    refine WC.region ?_
    -- R4.0 17 := kernel.go:246 fieldAddr
    refine WL.v (by exact r_field ty_fld28_0 rfl) rfl rfl rfl ?_
    -- R4.1 18 := kernel.go:246 load
    refine WL.v (by exact r_load1 (v := .int .u8 ((4 : Nat) : Int)) ty_one25 rfl (st.drop.c0 (by decide))) rfl rfl rfl ?_
    refine WL.fin hK1206 (fun _ _ h => h) ?_
    refine WC.block ?_
    refine WC.seq fun K1207 hK1207 => ?_
    -- region 5
    refine WC.region ?_
    -- R5.0 20 := kernel.go:247 binOp
    refine WL.v (by first | exact r_eql rfl rfl (decide_eq_true (by omega)) | exact r_eql rfl rfl (decide_eq_false (by omega)) | exact r_eql rfl rfl rfl) rfl rfl rfl ?_
    -- R5.1 19 := kernel.go:247 assign
    refine WL.v (by first | exact r_assign (v := .bool _) rfl | exact r_assign rfl) rfl rfl rfl ?_
    refine WL.fin hK1207 (fun _ _ h => h) ?_
    refine WC.condF rfl rfl ?_
    refine WC.seq fun K1208 hK1208 => ?_
    -- region 7
    refine WC.region ?_
    -- R7.0 27 := kernel.go:249 binOp
    refine WL.v (by first | exact r_eql rfl rfl (decide_eq_true (by omega)) | exact r_eql rfl rfl (decide_eq_false (by omega)) | exact r_eql rfl rfl rfl) rfl rfl rfl ?_
    -- R7.1 26 := kernel.go:249 assign
    refine WL.v (by first | exact r_assign (v := .bool _) rfl | exact r_assign rfl) rfl rfl rfl ?_
    refine WL.fin hK1208 (fun _ _ h => h) ?_
    refine WC.condF rfl rfl ?_
    refine WC.seq fun K1209 hK1209 => ?_
    -- region 9
    refine WC.region ?_
    -- R9.0 31 := kernel.go:251 binOp
    refine WL.v (by first | exact r_eql rfl rfl (decide_eq_true (by omega)) | exact r_eql rfl rfl (decide_eq_false (by omega)) | exact r_eql rfl rfl rfl) rfl rfl rfl ?_
    -- R9.1 30 := kernel.go:251 assign
    refine WL.v (by first | exact r_assign (v := .bool _) rfl | exact r_assign rfl) rfl rfl rfl ?_
    refine WL.fin hK1209 (fun _ _ h => h) ?_
    refine WC.condF rfl rfl ?_
    refine WC.seq fun K1210 hK1210 => ?_
    -- region 11
    refine WC.region ?_
    -- R11.0 38 := kernel.go:253 binOp
    refine WL.v (by first | exact r_eql rfl rfl (decide_eq_true (by omega)) | exact r_eql rfl rfl (decide_eq_false (by omega)) | exact r_eql rfl rfl rfl) rfl rfl rfl ?_
    -- R11.1 37 := kernel.go:253 assign
    refine WL.v (by first | exact r_assign (v := .bool _) rfl | exact r_assign rfl) rfl rfl rfl ?_
    refine WL.fin hK1210 (fun _ _ h => h) ?_
    refine WC.condF rfl rfl ?_
    refine WC.seq fun K1211 hK1211 => ?_
    -- region 13
    refine WC.region ?_
    -- R13.0 45 := kernel.go:255 binOp
    refine WL.v (by first | exact r_eql rfl rfl (decide_eq_true (by omega)) | exact r_eql rfl rfl (decide_eq_false (by omega)) | exact r_eql rfl rfl rfl) rfl rfl rfl ?_
    -- R13.1 44 := kernel.go:255 assign
    refine WL.v (by first | exact r_assign (v := .bool _) rfl | exact r_assign rfl) rfl rfl rfl ?_
    refine WL.fin hK1211 (fun _ _ h => h) ?_
    refine WC.condT rfl rfl ?_
    refine WC.seq fun K1212 hK1212 => ?_
    -- region 14
    refine WC.region ?_
    -- R14.0 46 := kernel.go:256 move
    refine WL.v (by first | exact r_move (v := .pointer _) rfl | exact r_move rfl) rfl rfl rfl ?_
    -- R14.1 47 := kernel.go:256 move
    refine WL.v (by first | exact r_move (v := .int _ _) rfl | exact r_move rfl) rfl rfl rfl ?_
    -- R14.2 48 := kernel.go:256 move
    refine WL.v (by first | exact r_move (v := .int _ _) rfl | exact r_move rfl) rfl rfl rfl ?_
    -- R14.3 49 := kernel.go:256 move
    refine WL.v (by first | exact r_move (v := .int _ _) rfl | exact r_move rfl) rfl rfl rfl ?_
    -- R14.4 50 := kernel.go:256 call
    have st : KH w0 B s (zR b4 :: oI b3 ⟨4, A, Bb, C, x⟩ :: l) w := V.back (I := [_, _]) st
    refine WL.call (r_call ty_call80 rfl) rfl rfl rfl (tryAcquire_ok hD hB hN20 hu1 hu2 hnow harm st) ?_
    rintro _ w ⟨ovr, XO, hor, rfl, st⟩
    have hone := st.one (it := oI b3 ⟨4, A, Bb, C, x⟩) (by simp)
    obtain ⟨ar, cr, br, rfl, -, -, -, -⟩ := hor.form
    obtain ⟨Yr, st, backr⟩ := KH.out (st.perm (List.perm_append_comm_assoc XO [_] (oI b3 ⟨4, A, Bb, C, x⟩ :: l)))
    -- R14.5 None := kernel.go:256 store
    first | refine WL.storeW (vs := [_, _, _]) st ty_agg34 rfl rfl rfl rfl rfl rfl ?_ | refine WL.storeL (vs := [_, _, _]) st ty_agg34 rfl rfl rfl rfl (by first | decide | omega) rfl rfl ?_ | refine WL.storeW (vs := [_, _, _]) st.front1 ty_agg34 rfl rfl rfl rfl rfl rfl ?_ | refine WL.storeL (vs := [_, _, _]) st.front1 ty_agg34 rfl rfl rfl rfl (by first | decide | omega) rfl rfl ?_ | refine WL.storeW (vs := [_, _, _]) st.front2 ty_agg34 rfl rfl rfl rfl rfl rfl ?_ | refine WL.storeL (vs := [_, _, _]) st.front2 ty_agg34 rfl rfl rfl rfl (by first | decide | omega) rfl rfl ?_ | refine WL.storeW (vs := [_, _, _]) st.front3 ty_agg34 rfl rfl rfl rfl rfl rfl ?_ | refine WL.storeL (vs := [_, _, _]) st.front3 ty_agg34 rfl rfl rfl rfl (by first | decide | omega) rfl rfl ?_ | refine WL.storeW (vs := [_, _, _]) st.front4 ty_agg34 rfl rfl rfl rfl rfl rfl ?_ | refine WL.storeL (vs := [_, _, _]) st.front4 ty_agg34 rfl rfl rfl rfl (by first | decide | omega) rfl rfl ?_ | refine WL.storeW (vs := [_, _, _]) st.front5 ty_agg34 rfl rfl rfl rfl rfl rfl ?_ | refine WL.storeL (vs := [_, _, _]) st.front5 ty_agg34 rfl rfl rfl rfl (by first | decide | omega) rfl rfl ?_ | refine WL.storeW (vs := [_, _, _]) st.front6 ty_agg34 rfl rfl rfl rfl rfl rfl ?_ | refine WL.storeL (vs := [_, _, _]) st.front6 ty_agg34 rfl rfl rfl rfl (by first | decide | omega) rfl rfl ?_ | refine WL.storeW (vs := [_, _, _]) st.front7 ty_agg34 rfl rfl rfl rfl rfl rfl ?_ | refine WL.storeL (vs := [_, _, _]) st.front7 ty_agg34 rfl rfl rfl rfl (by first | decide | omega) rfl rfl ?_ | refine WL.storeW (vs := [_, _, _]) st.front8 ty_agg34 rfl rfl rfl rfl rfl rfl ?_ | refine WL.storeL (vs := [_, _, _]) st.front8 ty_agg34 rfl rfl rfl rfl (by first | decide | omega) rfl rfl ?_
    intro w st
    refine WL.fin hK1212 (fun _ _ h => h) ?_
    refine WC.retC (vs := [_, _, _]) Tryz.results52 (fun _ _ h => h) rfl ty_agg34 rfl ⟨(by first | assumption | exact st.c0 (by first | decide | omega) | exact st.c1 (by first | decide | omega) | exact st.c2 (by first | decide | omega) | exact st.c3 (by first | decide | omega) | exact st.c4 (by first | decide | omega) | exact st.c5 (by first | decide | omega) | exact st.c6 (by first | decide | omega) | exact st.c7 (by first | decide | omega) | exact st.c8 (by first | decide | omega)), (by first | assumption | exact st.c0 (by first | decide | omega) | exact st.c1 (by first | decide | omega) | exact st.c2 (by first | decide | omega) | exact st.c3 (by first | decide | omega) | exact st.c4 (by first | decide | omega) | exact st.c5 (by first | decide | omega) | exact st.c6 (by first | decide | omega) | exact st.c7 (by first | decide | omega) | exact st.c8 (by first | decide | omega)), (by first | assumption | exact st.c0 (by first | decide | omega) | exact st.c1 (by first | decide | omega) | exact st.c2 (by first | decide | omega) | exact st.c3 (by first | decide | omega) | exact st.c4 (by first | decide | omega) | exact st.c5 (by first | decide | omega) | exact st.c6 (by first | decide | omega) | exact st.c7 (by first | decide | omega) | exact st.c8 (by first | decide | omega)), trivial⟩ ?_
    exact ⟨_, rfl, _, XO, hor, rfl, (backr st).drop.sub ((List.sublist_cons_self _ _).append_left _)⟩
  by_cases hk5 : k = 5
  · subst hk5
    refine enter [.pointer (some ⟨B.bk, 0, none⟩), .agg #[.int .u8 ((5 : Nat) : Int), .int .i64 A, .int .i64 Bb, .int .i64 C, .int .u64 (x : Nat)]] Tryz.func52 rfl Tryz.ntmps52 rfl ?_
    show WC _ _ _ 96 [] [(0, .pointer (some ⟨B.bk, 0, none⟩)), (1, .agg #[.int .u8 ((5 : Nat) : Int), .int .i64 A, .int .i64 Bb, .int .i64 C, .int .u64 (x : Nat)])] _
    refine WC.seq fun K1213 hK1213 => ?_
    -- region 0
    refine WC.region ?_
    -- R0.0 3 := kernel.go:242 box
    first | refine WL.box (m := 5) (vs := [.int _ _, .int _ _, .int _ _, .int _ _, .int _ _]) st rfl rfl rfl rfl rfl rfl ?_ | refine WL.box (m := 5) (vs := [_, _, _, _, _]) st rfl rfl rfl rfl rfl rfl ?_ | refine WL.box st rfl rfl rfl rfl rfl rfl ?_
    intro b3 w st
    -- R0.1 4 := kernel.go:242 alloc
    refine WL.alloc (m := 3) st ty_zero34 rfl rfl rfl ?_
    intro b4 w st
    refine WL.fin hK1213 (fun _ _ h => h) ?_
    refine WC.seq fun K1214 hK1214 => ?_
    -- region 1
    refine WC.region ?_
    -- R1.0 8 := kernel.go:243 fieldAddr
    refine WL.v (by exact r_field ty_fld28_1 rfl) rfl rfl rfl ?_
    -- R1.1 9 := kernel.go:243 load
    refine WL.v (by exact r_load1 (v := .int .i64 A) ty_one2 rfl (st.drop.c0 (by decide))) rfl rfl rfl ?_
    -- R1.2 10 := kernel.go:243 call
    refine WL.call (r_call ty_call75 rfl) rfl rfl rfl (name_ok A 16 st) ?_
    rintro _ w ⟨rfl, st⟩
    -- R1.3 5 := kernel.go:243 assign
    refine WL.v (by first | exact r_assign (v := .int _ _) rfl | exact r_assign rfl) rfl rfl rfl ?_
    refine WL.fin hK1214 (fun _ _ h => h) ?_
    refine WC.seq fun K1215 hK1215 => ?_
    -- region 2
    refine WC.region ?_
    -- R2.0 11 := kernel.go:244 fieldAddr
    refine WL.v (by exact r_field ty_fld28_2 rfl) rfl rfl rfl ?_
    -- R2.1 12 := kernel.go:244 load
    refine WL.v (by exact r_load1 (v := .int .i64 Bb) ty_one2 rfl (st.drop.c0 (by decide))) rfl rfl rfl ?_
    -- R2.2 13 := kernel.go:244 call
    refine WL.call (r_call ty_call75 rfl) rfl rfl rfl (name_ok Bb 20 st) ?_
    rintro _ w ⟨rfl, st⟩
    -- R2.3 6 := kernel.go:244 assign
    refine WL.v (by first | exact r_assign (v := .int _ _) rfl | exact r_assign rfl) rfl rfl rfl ?_
    refine WL.fin hK1215 (fun _ _ h => h) ?_
    refine WC.seq fun K1216 hK1216 => ?_
    -- region 3
    refine WC.region ?_
    -- R3.0 14 := kernel.go:245 fieldAddr
    refine WL.v (by exact r_field ty_fld28_3 rfl) rfl rfl rfl ?_
    -- R3.1 15 := kernel.go:245 load
    refine WL.v (by exact r_load1 (v := .int .i64 C) ty_one2 rfl (st.drop.c0 (by decide))) rfl rfl rfl ?_
    -- R3.2 16 := kernel.go:245 call
    refine WL.call (r_call ty_call75 rfl) rfl rfl rfl (name_ok C 17 st) ?_
    rintro _ w ⟨rfl, st⟩
    -- R3.3 7 := kernel.go:245 assign
    refine WL.v (by first | exact r_assign (v := .int _ _) rfl | exact r_assign rfl) rfl rfl rfl ?_
    refine WL.fin hK1216 (fun _ _ h => h) ?_
    refine WC.seq fun K1217 hK1217 => ?_
    refine WC.seq fun K1218 hK1218 => ?_
    -- region 4
    refine WC.region ?_
    -- R4.0 17 := kernel.go:246 fieldAddr
    refine WL.v (by exact r_field ty_fld28_0 rfl) rfl rfl rfl ?_
    -- R4.1 18 := kernel.go:246 load
    refine WL.v (by exact r_load1 (v := .int .u8 ((5 : Nat) : Int)) ty_one25 rfl (st.drop.c0 (by decide))) rfl rfl rfl ?_
    refine WL.fin hK1218 (fun _ _ h => h) ?_
    refine WC.block ?_
    refine WC.seq fun K1219 hK1219 => ?_
    -- region 5
    refine WC.region ?_
    -- R5.0 20 := kernel.go:247 binOp
    refine WL.v (by first | exact r_eql rfl rfl (decide_eq_true (by omega)) | exact r_eql rfl rfl (decide_eq_false (by omega)) | exact r_eql rfl rfl rfl) rfl rfl rfl ?_
    -- R5.1 19 := kernel.go:247 assign
    refine WL.v (by first | exact r_assign (v := .bool _) rfl | exact r_assign rfl) rfl rfl rfl ?_
    refine WL.fin hK1219 (fun _ _ h => h) ?_
    refine WC.condF rfl rfl ?_
    refine WC.seq fun K1220 hK1220 => ?_
    -- region 7
    refine WC.region ?_
    -- R7.0 27 := kernel.go:249 binOp
    refine WL.v (by first | exact r_eql rfl rfl (decide_eq_true (by omega)) | exact r_eql rfl rfl (decide_eq_false (by omega)) | exact r_eql rfl rfl rfl) rfl rfl rfl ?_
    -- R7.1 26 := kernel.go:249 assign
    refine WL.v (by first | exact r_assign (v := .bool _) rfl | exact r_assign rfl) rfl rfl rfl ?_
    refine WL.fin hK1220 (fun _ _ h => h) ?_
    refine WC.condF rfl rfl ?_
    refine WC.seq fun K1221 hK1221 => ?_
    -- region 9
    refine WC.region ?_
    -- R9.0 31 := kernel.go:251 binOp
    refine WL.v (by first | exact r_eql rfl rfl (decide_eq_true (by omega)) | exact r_eql rfl rfl (decide_eq_false (by omega)) | exact r_eql rfl rfl rfl) rfl rfl rfl ?_
    -- R9.1 30 := kernel.go:251 assign
    refine WL.v (by first | exact r_assign (v := .bool _) rfl | exact r_assign rfl) rfl rfl rfl ?_
    refine WL.fin hK1221 (fun _ _ h => h) ?_
    refine WC.condF rfl rfl ?_
    refine WC.seq fun K1222 hK1222 => ?_
    -- region 11
    refine WC.region ?_
    -- R11.0 38 := kernel.go:253 binOp
    refine WL.v (by first | exact r_eql rfl rfl (decide_eq_true (by omega)) | exact r_eql rfl rfl (decide_eq_false (by omega)) | exact r_eql rfl rfl rfl) rfl rfl rfl ?_
    -- R11.1 37 := kernel.go:253 assign
    refine WL.v (by first | exact r_assign (v := .bool _) rfl | exact r_assign rfl) rfl rfl rfl ?_
    refine WL.fin hK1222 (fun _ _ h => h) ?_
    refine WC.condF rfl rfl ?_
    refine WC.seq fun K1223 hK1223 => ?_
    -- region 13
    refine WC.region ?_
    -- R13.0 45 := kernel.go:255 binOp
    refine WL.v (by first | exact r_eql rfl rfl (decide_eq_true (by omega)) | exact r_eql rfl rfl (decide_eq_false (by omega)) | exact r_eql rfl rfl rfl) rfl rfl rfl ?_
    -- R13.1 44 := kernel.go:255 assign
    refine WL.v (by first | exact r_assign (v := .bool _) rfl | exact r_assign rfl) rfl rfl rfl ?_
    refine WL.fin hK1223 (fun _ _ h => h) ?_
    refine WC.condF rfl rfl ?_
    refine WC.seq fun K1224 hK1224 => ?_
    -- region 15
    refine WC.region ?_
    -- R15.0 52 := kernel.go:257 binOp
    refine WL.v (by first | exact r_eql rfl rfl (decide_eq_true (by omega)) | exact r_eql rfl rfl (decide_eq_false (by omega)) | exact r_eql rfl rfl rfl) rfl rfl rfl ?_
    -- R15.1 51 := kernel.go:257 assign
    refine WL.v (by first | exact r_assign (v := .bool _) rfl | exact r_assign rfl) rfl rfl rfl ?_
    refine WL.fin hK1224 (fun _ _ h => h) ?_
    refine WC.condT rfl rfl ?_
    refine WC.seq fun K1225 hK1225 => ?_
    -- region 16
    refine WC.region ?_
    -- R16.0 53 := kernel.go:258 move
    refine WL.v (by first | exact r_move (v := .pointer _) rfl | exact r_move rfl) rfl rfl rfl ?_
    -- R16.1 54 := kernel.go:258 move
    refine WL.v (by first | exact r_move (v := .int _ _) rfl | exact r_move rfl) rfl rfl rfl ?_
    -- R16.2 55 := kernel.go:258 move
    refine WL.v (by first | exact r_move (v := .int _ _) rfl | exact r_move rfl) rfl rfl rfl ?_
    -- R16.3 56 := kernel.go:258 move
    refine WL.v (by first | exact r_move (v := .int _ _) rfl | exact r_move rfl) rfl rfl rfl ?_
    -- R16.4 57 := kernel.go:258 fieldAddr
    refine WL.v (by exact r_field ty_fld28_4 rfl) rfl rfl rfl ?_
    -- R16.5 58 := kernel.go:258 load
    refine WL.v (by exact r_load1 (v := .int .u64 (x : Nat)) ty_one26 rfl (st.drop.c0 (by decide))) rfl rfl rfl ?_
    -- R16.6 59 := kernel.go:258 call
    have st : KH w0 B s (zR b4 :: oI b3 ⟨5, A, Bb, C, x⟩ :: l) w := V.back (I := [_, _]) st
    refine WL.call (r_call ty_call81 rfl) rfl rfl rfl (timedAcquire_ok hD hB hN20 hu1 hu2 hX hnow harm st) ?_
    rintro _ w ⟨ovr, XO, hor, rfl, st⟩
    have hone := st.one (it := oI b3 ⟨5, A, Bb, C, x⟩) (by simp)
    obtain ⟨ar, cr, br, rfl, -, -, -, -⟩ := hor.form
    obtain ⟨Yr, st, backr⟩ := KH.out (st.perm (List.perm_append_comm_assoc XO [_] (oI b3 ⟨5, A, Bb, C, x⟩ :: l)))
    -- R16.7 None := kernel.go:258 store
    first | refine WL.storeW (vs := [_, _, _]) st ty_agg34 rfl rfl rfl rfl rfl rfl ?_ | refine WL.storeL (vs := [_, _, _]) st ty_agg34 rfl rfl rfl rfl (by first | decide | omega) rfl rfl ?_ | refine WL.storeW (vs := [_, _, _]) st.front1 ty_agg34 rfl rfl rfl rfl rfl rfl ?_ | refine WL.storeL (vs := [_, _, _]) st.front1 ty_agg34 rfl rfl rfl rfl (by first | decide | omega) rfl rfl ?_ | refine WL.storeW (vs := [_, _, _]) st.front2 ty_agg34 rfl rfl rfl rfl rfl rfl ?_ | refine WL.storeL (vs := [_, _, _]) st.front2 ty_agg34 rfl rfl rfl rfl (by first | decide | omega) rfl rfl ?_ | refine WL.storeW (vs := [_, _, _]) st.front3 ty_agg34 rfl rfl rfl rfl rfl rfl ?_ | refine WL.storeL (vs := [_, _, _]) st.front3 ty_agg34 rfl rfl rfl rfl (by first | decide | omega) rfl rfl ?_ | refine WL.storeW (vs := [_, _, _]) st.front4 ty_agg34 rfl rfl rfl rfl rfl rfl ?_ | refine WL.storeL (vs := [_, _, _]) st.front4 ty_agg34 rfl rfl rfl rfl (by first | decide | omega) rfl rfl ?_ | refine WL.storeW (vs := [_, _, _]) st.front5 ty_agg34 rfl rfl rfl rfl rfl rfl ?_ | refine WL.storeL (vs := [_, _, _]) st.front5 ty_agg34 rfl rfl rfl rfl (by first | decide | omega) rfl rfl ?_ | refine WL.storeW (vs := [_, _, _]) st.front6 ty_agg34 rfl rfl rfl rfl rfl rfl ?_ | refine WL.storeL (vs := [_, _, _]) st.front6 ty_agg34 rfl rfl rfl rfl (by first | decide | omega) rfl rfl ?_ | refine WL.storeW (vs := [_, _, _]) st.front7 ty_agg34 rfl rfl rfl rfl rfl rfl ?_ | refine WL.storeL (vs := [_, _, _]) st.front7 ty_agg34 rfl rfl rfl rfl (by first | decide | omega) rfl rfl ?_ | refine WL.storeW (vs := [_, _, _]) st.front8 ty_agg34 rfl rfl rfl rfl rfl rfl ?_ | refine WL.storeL (vs := [_, _, _]) st.front8 ty_agg34 rfl rfl rfl rfl (by first | decide | omega) rfl rfl ?_
    intro w st
    refine WL.fin hK1225 (fun _ _ h => h) ?_
    refine WC.retC (vs := [_, _, _]) Tryz.results52 (fun _ _ h => h) rfl ty_agg34 rfl ⟨(by first | assumption | exact st.c0 (by first | decide | omega) | exact st.c1 (by first | decide | omega) | exact st.c2 (by first | decide | omega) | exact st.c3 (by first | decide | omega) | exact st.c4 (by first | decide | omega) | exact st.c5 (by first | decide | omega) | exact st.c6 (by first | decide | omega) | exact st.c7 (by first | decide | omega) | exact st.c8 (by first | decide | omega)), (by first | assumption | exact st.c0 (by first | decide | omega) | exact st.c1 (by first | decide | omega) | exact st.c2 (by first | decide | omega) | exact st.c3 (by first | decide | omega) | exact st.c4 (by first | decide | omega) | exact st.c5 (by first | decide | omega) | exact st.c6 (by first | decide | omega) | exact st.c7 (by first | decide | omega) | exact st.c8 (by first | decide | omega)), (by first | assumption | exact st.c0 (by first | decide | omega) | exact st.c1 (by first | decide | omega) | exact st.c2 (by first | decide | omega) | exact st.c3 (by first | decide | omega) | exact st.c4 (by first | decide | omega) | exact st.c5 (by first | decide | omega) | exact st.c6 (by first | decide | omega) | exact st.c7 (by first | decide | omega) | exact st.c8 (by first | decide | omega)), trivial⟩ ?_
    exact ⟨_, rfl, _, XO, hor, rfl, (backr st).drop.sub ((List.sublist_cons_self _ _).append_left _)⟩
  by_cases hk6 : k = 6
  · subst hk6
    refine enter [.pointer (some ⟨B.bk, 0, none⟩), .agg #[.int .u8 ((6 : Nat) : Int), .int .i64 A, .int .i64 Bb, .int .i64 C, .int .u64 (x : Nat)]] Tryz.func52 rfl Tryz.ntmps52 rfl ?_
    show WC _ _ _ 96 [] [(0, .pointer (some ⟨B.bk, 0, none⟩)), (1, .agg #[.int .u8 ((6 : Nat) : Int), .int .i64 A, .int .i64 Bb, .int .i64 C, .int .u64 (x : Nat)])] _
    refine WC.seq fun K1226 hK1226 => ?_
    -- region 0
    refine WC.region ?_
    -- R0.0 3 := kernel.go:242 box
    first | refine WL.box (m := 5) (vs := [.int _ _, .int _ _, .int _ _, .int _ _, .int _ _]) st rfl rfl rfl rfl rfl rfl ?_ | refine WL.box (m := 5) (vs := [_, _, _, _, _]) st rfl rfl rfl rfl rfl rfl ?_ | refine WL.box st rfl rfl rfl rfl rfl rfl ?_
    intro b3 w st
    -- R0.1 4 := kernel.go:242 alloc
    refine WL.alloc (m := 3) st ty_zero34 rfl rfl rfl ?_
    intro b4 w st
    refine WL.fin hK1226 (fun _ _ h => h) ?_
    refine WC.seq fun K1227 hK1227 => ?_
    -- region 1
    refine WC.region ?_
    -- R1.0 8 := kernel.go:243 fieldAddr
    refine WL.v (by exact r_field ty_fld28_1 rfl) rfl rfl rfl ?_
    -- R1.1 9 := kernel.go:243 load
    refine WL.v (by exact r_load1 (v := .int .i64 A) ty_one2 rfl (st.drop.c0 (by decide))) rfl rfl rfl ?_
    -- R1.2 10 := kernel.go:243 call
    refine WL.call (r_call ty_call75 rfl) rfl rfl rfl (name_ok A 16 st) ?_
    rintro _ w ⟨rfl, st⟩
    -- R1.3 5 := kernel.go:243 assign
    refine WL.v (by first | exact r_assign (v := .int _ _) rfl | exact r_assign rfl) rfl rfl rfl ?_
    refine WL.fin hK1227 (fun _ _ h => h) ?_
    refine WC.seq fun K1228 hK1228 => ?_
    -- region 2
    refine WC.region ?_
    -- R2.0 11 := kernel.go:244 fieldAddr
    refine WL.v (by exact r_field ty_fld28_2 rfl) rfl rfl rfl ?_
    -- R2.1 12 := kernel.go:244 load
    refine WL.v (by exact r_load1 (v := .int .i64 Bb) ty_one2 rfl (st.drop.c0 (by decide))) rfl rfl rfl ?_
    -- R2.2 13 := kernel.go:244 call
    refine WL.call (r_call ty_call75 rfl) rfl rfl rfl (name_ok Bb 20 st) ?_
    rintro _ w ⟨rfl, st⟩
    -- R2.3 6 := kernel.go:244 assign
    refine WL.v (by first | exact r_assign (v := .int _ _) rfl | exact r_assign rfl) rfl rfl rfl ?_
    refine WL.fin hK1228 (fun _ _ h => h) ?_
    refine WC.seq fun K1229 hK1229 => ?_
    -- region 3
    refine WC.region ?_
    -- R3.0 14 := kernel.go:245 fieldAddr
    refine WL.v (by exact r_field ty_fld28_3 rfl) rfl rfl rfl ?_
    -- R3.1 15 := kernel.go:245 load
    refine WL.v (by exact r_load1 (v := .int .i64 C) ty_one2 rfl (st.drop.c0 (by decide))) rfl rfl rfl ?_
    -- R3.2 16 := kernel.go:245 call
    refine WL.call (r_call ty_call75 rfl) rfl rfl rfl (name_ok C 17 st) ?_
    rintro _ w ⟨rfl, st⟩
    -- R3.3 7 := kernel.go:245 assign
    refine WL.v (by first | exact r_assign (v := .int _ _) rfl | exact r_assign rfl) rfl rfl rfl ?_
    refine WL.fin hK1229 (fun _ _ h => h) ?_
    refine WC.seq fun K1230 hK1230 => ?_
    refine WC.seq fun K1231 hK1231 => ?_
    -- region 4
    refine WC.region ?_
    -- R4.0 17 := kernel.go:246 fieldAddr
    refine WL.v (by exact r_field ty_fld28_0 rfl) rfl rfl rfl ?_
    -- R4.1 18 := kernel.go:246 load
    refine WL.v (by exact r_load1 (v := .int .u8 ((6 : Nat) : Int)) ty_one25 rfl (st.drop.c0 (by decide))) rfl rfl rfl ?_
    refine WL.fin hK1231 (fun _ _ h => h) ?_
    refine WC.block ?_
    refine WC.seq fun K1232 hK1232 => ?_
    -- region 5
    refine WC.region ?_
    -- R5.0 20 := kernel.go:247 binOp
    refine WL.v (by first | exact r_eql rfl rfl (decide_eq_true (by omega)) | exact r_eql rfl rfl (decide_eq_false (by omega)) | exact r_eql rfl rfl rfl) rfl rfl rfl ?_
    -- R5.1 19 := kernel.go:247 assign
    refine WL.v (by first | exact r_assign (v := .bool _) rfl | exact r_assign rfl) rfl rfl rfl ?_
    refine WL.fin hK1232 (fun _ _ h => h) ?_
    refine WC.condF rfl rfl ?_
    refine WC.seq fun K1233 hK1233 => ?_
    -- region 7
    refine WC.region ?_
    -- R7.0 27 := kernel.go:249 binOp
    refine WL.v (by first | exact r_eql rfl rfl (decide_eq_true (by omega)) | exact r_eql rfl rfl (decide_eq_false (by omega)) | exact r_eql rfl rfl rfl) rfl rfl rfl ?_
    -- R7.1 26 := kernel.go:249 assign
    refine WL.v (by first | exact r_assign (v := .bool _) rfl | exact r_assign rfl) rfl rfl rfl ?_
    refine WL.fin hK1233 (fun _ _ h => h) ?_
    refine WC.condF rfl rfl ?_
    refine WC.seq fun K1234 hK1234 => ?_
    -- region 9
    refine WC.region ?_
    -- R9.0 31 := kernel.go:251 binOp
    refine WL.v (by first | exact r_eql rfl rfl (decide_eq_true (by omega)) | exact r_eql rfl rfl (decide_eq_false (by omega)) | exact r_eql rfl rfl rfl) rfl rfl rfl ?_
    -- R9.1 30 := kernel.go:251 assign
    refine WL.v (by first | exact r_assign (v := .bool _) rfl | exact r_assign rfl) rfl rfl rfl ?_
    refine WL.fin hK1234 (fun _ _ h => h) ?_
    refine WC.condF rfl rfl ?_
    refine WC.seq fun K1235 hK1235 => ?_
    -- region 11
    refine WC.region ?_
    -- R11.0 38 := kernel.go:253 binOp
    refine WL.v (by first | exact r_eql rfl rfl (decide_eq_true (by omega)) | exact r_eql rfl rfl (decide_eq_false (by omega)) | exact r_eql rfl rfl rfl) rfl rfl rfl ?_
    -- R11.1 37 := kernel.go:253 assign
    refine WL.v (by first | exact r_assign (v := .bool _) rfl | exact r_assign rfl) rfl rfl rfl ?_
    refine WL.fin hK1235 (fun _ _ h => h) ?_
    refine WC.condF rfl rfl ?_
    refine WC.seq fun K1236 hK1236 => ?_
    -- region 13
    refine WC.region ?_
    -- R13.0 45 := kernel.go:255 binOp
    refine WL.v (by first | exact r_eql rfl rfl (decide_eq_true (by omega)) | exact r_eql rfl rfl (decide_eq_false (by omega)) | exact r_eql rfl rfl rfl) rfl rfl rfl ?_
    -- R13.1 44 := kernel.go:255 assign
    refine WL.v (by first | exact r_assign (v := .bool _) rfl | exact r_assign rfl) rfl rfl rfl ?_
    refine WL.fin hK1236 (fun _ _ h => h) ?_
    refine WC.condF rfl rfl ?_
    refine WC.seq fun K1237 hK1237 => ?_
    -- region 15
    refine WC.region ?_
    -- R15.0 52 := kernel.go:257 binOp
    refine WL.v (by first | exact r_eql rfl rfl (decide_eq_true (by omega)) | exact r_eql rfl rfl (decide_eq_false (by omega)) | exact r_eql rfl rfl rfl) rfl rfl rfl ?_
    -- R15.1 51 := kernel.go:257 assign
    refine WL.v (by first | exact r_assign (v := .bool _) rfl | exact r_assign rfl) rfl rfl rfl ?_
    refine WL.fin hK1237 (fun _ _ h => h) ?_
    refine WC.condF rfl rfl ?_
    refine WC.seq fun K1238 hK1238 => ?_
    -- region 17
    refine WC.region ?_
    -- R17.0 61 := kernel.go:259 binOp
    refine WL.v (by first | exact r_eql rfl rfl (decide_eq_true (by omega)) | exact r_eql rfl rfl (decide_eq_false (by omega)) | exact r_eql rfl rfl rfl) rfl rfl rfl ?_
    -- R17.1 60 := kernel.go:259 assign
    refine WL.v (by first | exact r_assign (v := .bool _) rfl | exact r_assign rfl) rfl rfl rfl ?_
    refine WL.fin hK1238 (fun _ _ h => h) ?_
    refine WC.condT rfl rfl ?_
    refine WC.seq fun K1239 hK1239 => ?_
    -- region 18
    refine WC.region ?_
    -- R18.0 62 := kernel.go:260 move
    refine WL.v (by first | exact r_move (v := .pointer _) rfl | exact r_move rfl) rfl rfl rfl ?_
    -- R18.1 63 := kernel.go:260 move
    refine WL.v (by first | exact r_move (v := .int _ _) rfl | exact r_move rfl) rfl rfl rfl ?_
    -- R18.2 64 := kernel.go:260 move
    refine WL.v (by first | exact r_move (v := .int _ _) rfl | exact r_move rfl) rfl rfl rfl ?_
    -- R18.3 65 := kernel.go:260 call
    have st : KH w0 B s (zR b4 :: oI b3 ⟨6, A, Bb, C, x⟩ :: l) w := V.back (I := [_, _]) st
    refine WL.call (r_call ty_call82 rfl) rfl rfl rfl (release_ok hB hNN st) ?_
    rintro _ w ⟨ovr, XO, hor, rfl, st⟩
    have hone := st.one (it := oI b3 ⟨6, A, Bb, C, x⟩) (by simp)
    obtain ⟨ar, cr, br, rfl, -, -, -, -⟩ := hor.form
    obtain ⟨Yr, st, backr⟩ := KH.out (st.perm (List.perm_append_comm_assoc XO [_] (oI b3 ⟨6, A, Bb, C, x⟩ :: l)))
    -- R18.4 None := kernel.go:260 store
    first | refine WL.storeW (vs := [_, _, _]) st ty_agg34 rfl rfl rfl rfl rfl rfl ?_ | refine WL.storeL (vs := [_, _, _]) st ty_agg34 rfl rfl rfl rfl (by first | decide | omega) rfl rfl ?_ | refine WL.storeW (vs := [_, _, _]) st.front1 ty_agg34 rfl rfl rfl rfl rfl rfl ?_ | refine WL.storeL (vs := [_, _, _]) st.front1 ty_agg34 rfl rfl rfl rfl (by first | decide | omega) rfl rfl ?_ | refine WL.storeW (vs := [_, _, _]) st.front2 ty_agg34 rfl rfl rfl rfl rfl rfl ?_ | refine WL.storeL (vs := [_, _, _]) st.front2 ty_agg34 rfl rfl rfl rfl (by first | decide | omega) rfl rfl ?_ | refine WL.storeW (vs := [_, _, _]) st.front3 ty_agg34 rfl rfl rfl rfl rfl rfl ?_ | refine WL.storeL (vs := [_, _, _]) st.front3 ty_agg34 rfl rfl rfl rfl (by first | decide | omega) rfl rfl ?_ | refine WL.storeW (vs := [_, _, _]) st.front4 ty_agg34 rfl rfl rfl rfl rfl rfl ?_ | refine WL.storeL (vs := [_, _, _]) st.front4 ty_agg34 rfl rfl rfl rfl (by first | decide | omega) rfl rfl ?_ | refine WL.storeW (vs := [_, _, _]) st.front5 ty_agg34 rfl rfl rfl rfl rfl rfl ?_ | refine WL.storeL (vs := [_, _, _]) st.front5 ty_agg34 rfl rfl rfl rfl (by first | decide | omega) rfl rfl ?_ | refine WL.storeW (vs := [_, _, _]) st.front6 ty_agg34 rfl rfl rfl rfl rfl rfl ?_ | refine WL.storeL (vs := [_, _, _]) st.front6 ty_agg34 rfl rfl rfl rfl (by first | decide | omega) rfl rfl ?_ | refine WL.storeW (vs := [_, _, _]) st.front7 ty_agg34 rfl rfl rfl rfl rfl rfl ?_ | refine WL.storeL (vs := [_, _, _]) st.front7 ty_agg34 rfl rfl rfl rfl (by first | decide | omega) rfl rfl ?_ | refine WL.storeW (vs := [_, _, _]) st.front8 ty_agg34 rfl rfl rfl rfl rfl rfl ?_ | refine WL.storeL (vs := [_, _, _]) st.front8 ty_agg34 rfl rfl rfl rfl (by first | decide | omega) rfl rfl ?_
    intro w st
    refine WL.fin hK1239 (fun _ _ h => h) ?_
    refine WC.retC (vs := [_, _, _]) Tryz.results52 (fun _ _ h => h) rfl ty_agg34 rfl ⟨(by first | assumption | exact st.c0 (by first | decide | omega) | exact st.c1 (by first | decide | omega) | exact st.c2 (by first | decide | omega) | exact st.c3 (by first | decide | omega) | exact st.c4 (by first | decide | omega) | exact st.c5 (by first | decide | omega) | exact st.c6 (by first | decide | omega) | exact st.c7 (by first | decide | omega) | exact st.c8 (by first | decide | omega)), (by first | assumption | exact st.c0 (by first | decide | omega) | exact st.c1 (by first | decide | omega) | exact st.c2 (by first | decide | omega) | exact st.c3 (by first | decide | omega) | exact st.c4 (by first | decide | omega) | exact st.c5 (by first | decide | omega) | exact st.c6 (by first | decide | omega) | exact st.c7 (by first | decide | omega) | exact st.c8 (by first | decide | omega)), (by first | assumption | exact st.c0 (by first | decide | omega) | exact st.c1 (by first | decide | omega) | exact st.c2 (by first | decide | omega) | exact st.c3 (by first | decide | omega) | exact st.c4 (by first | decide | omega) | exact st.c5 (by first | decide | omega) | exact st.c6 (by first | decide | omega) | exact st.c7 (by first | decide | omega) | exact st.c8 (by first | decide | omega)), trivial⟩ ?_
    exact ⟨_, rfl, _, XO, hor, rfl, (backr st).drop.sub ((List.sublist_cons_self _ _).append_left _)⟩
  by_cases hk7 : k = 7
  · subst hk7
    refine enter [.pointer (some ⟨B.bk, 0, none⟩), .agg #[.int .u8 ((7 : Nat) : Int), .int .i64 A, .int .i64 Bb, .int .i64 C, .int .u64 (x : Nat)]] Tryz.func52 rfl Tryz.ntmps52 rfl ?_
    show WC _ _ _ 96 [] [(0, .pointer (some ⟨B.bk, 0, none⟩)), (1, .agg #[.int .u8 ((7 : Nat) : Int), .int .i64 A, .int .i64 Bb, .int .i64 C, .int .u64 (x : Nat)])] _
    refine WC.seq fun K1240 hK1240 => ?_
    -- region 0
    refine WC.region ?_
    -- R0.0 3 := kernel.go:242 box
    first | refine WL.box (m := 5) (vs := [.int _ _, .int _ _, .int _ _, .int _ _, .int _ _]) st rfl rfl rfl rfl rfl rfl ?_ | refine WL.box (m := 5) (vs := [_, _, _, _, _]) st rfl rfl rfl rfl rfl rfl ?_ | refine WL.box st rfl rfl rfl rfl rfl rfl ?_
    intro b3 w st
    -- R0.1 4 := kernel.go:242 alloc
    refine WL.alloc (m := 3) st ty_zero34 rfl rfl rfl ?_
    intro b4 w st
    refine WL.fin hK1240 (fun _ _ h => h) ?_
    refine WC.seq fun K1241 hK1241 => ?_
    -- region 1
    refine WC.region ?_
    -- R1.0 8 := kernel.go:243 fieldAddr
    refine WL.v (by exact r_field ty_fld28_1 rfl) rfl rfl rfl ?_
    -- R1.1 9 := kernel.go:243 load
    refine WL.v (by exact r_load1 (v := .int .i64 A) ty_one2 rfl (st.drop.c0 (by decide))) rfl rfl rfl ?_
    -- R1.2 10 := kernel.go:243 call
    refine WL.call (r_call ty_call75 rfl) rfl rfl rfl (name_ok A 16 st) ?_
    rintro _ w ⟨rfl, st⟩
    -- R1.3 5 := kernel.go:243 assign
    refine WL.v (by first | exact r_assign (v := .int _ _) rfl | exact r_assign rfl) rfl rfl rfl ?_
    refine WL.fin hK1241 (fun _ _ h => h) ?_
    refine WC.seq fun K1242 hK1242 => ?_
    -- region 2
    refine WC.region ?_
    -- R2.0 11 := kernel.go:244 fieldAddr
    refine WL.v (by exact r_field ty_fld28_2 rfl) rfl rfl rfl ?_
    -- R2.1 12 := kernel.go:244 load
    refine WL.v (by exact r_load1 (v := .int .i64 Bb) ty_one2 rfl (st.drop.c0 (by decide))) rfl rfl rfl ?_
    -- R2.2 13 := kernel.go:244 call
    refine WL.call (r_call ty_call75 rfl) rfl rfl rfl (name_ok Bb 20 st) ?_
    rintro _ w ⟨rfl, st⟩
    -- R2.3 6 := kernel.go:244 assign
    refine WL.v (by first | exact r_assign (v := .int _ _) rfl | exact r_assign rfl) rfl rfl rfl ?_
    refine WL.fin hK1242 (fun _ _ h => h) ?_
    refine WC.seq fun K1243 hK1243 => ?_
    -- region 3
    refine WC.region ?_
    -- R3.0 14 := kernel.go:245 fieldAddr
    refine WL.v (by exact r_field ty_fld28_3 rfl) rfl rfl rfl ?_
    -- R3.1 15 := kernel.go:245 load
    refine WL.v (by exact r_load1 (v := .int .i64 C) ty_one2 rfl (st.drop.c0 (by decide))) rfl rfl rfl ?_
    -- R3.2 16 := kernel.go:245 call
    refine WL.call (r_call ty_call75 rfl) rfl rfl rfl (name_ok C 17 st) ?_
    rintro _ w ⟨rfl, st⟩
    -- R3.3 7 := kernel.go:245 assign
    refine WL.v (by first | exact r_assign (v := .int _ _) rfl | exact r_assign rfl) rfl rfl rfl ?_
    refine WL.fin hK1243 (fun _ _ h => h) ?_
    refine WC.seq fun K1244 hK1244 => ?_
    refine WC.seq fun K1245 hK1245 => ?_
    -- region 4
    refine WC.region ?_
    -- R4.0 17 := kernel.go:246 fieldAddr
    refine WL.v (by exact r_field ty_fld28_0 rfl) rfl rfl rfl ?_
    -- R4.1 18 := kernel.go:246 load
    refine WL.v (by exact r_load1 (v := .int .u8 ((7 : Nat) : Int)) ty_one25 rfl (st.drop.c0 (by decide))) rfl rfl rfl ?_
    refine WL.fin hK1245 (fun _ _ h => h) ?_
    refine WC.block ?_
    refine WC.seq fun K1246 hK1246 => ?_
    -- region 5
    refine WC.region ?_
    -- R5.0 20 := kernel.go:247 binOp
    refine WL.v (by first | exact r_eql rfl rfl (decide_eq_true (by omega)) | exact r_eql rfl rfl (decide_eq_false (by omega)) | exact r_eql rfl rfl rfl) rfl rfl rfl ?_
    -- R5.1 19 := kernel.go:247 assign
    refine WL.v (by first | exact r_assign (v := .bool _) rfl | exact r_assign rfl) rfl rfl rfl ?_
    refine WL.fin hK1246 (fun _ _ h => h) ?_
    refine WC.condF rfl rfl ?_
    refine WC.seq fun K1247 hK1247 => ?_
    -- region 7
    refine WC.region ?_
    -- R7.0 27 := kernel.go:249 binOp
    refine WL.v (by first | exact r_eql rfl rfl (decide_eq_true (by omega)) | exact r_eql rfl rfl (decide_eq_false (by omega)) | exact r_eql rfl rfl rfl) rfl rfl rfl ?_
    -- R7.1 26 := kernel.go:249 assign
    refine WL.v (by first | exact r_assign (v := .bool _) rfl | exact r_assign rfl) rfl rfl rfl ?_
    refine WL.fin hK1247 (fun _ _ h => h) ?_
    refine WC.condF rfl rfl ?_
    refine WC.seq fun K1248 hK1248 => ?_
    -- region 9
    refine WC.region ?_
    -- R9.0 31 := kernel.go:251 binOp
    refine WL.v (by first | exact r_eql rfl rfl (decide_eq_true (by omega)) | exact r_eql rfl rfl (decide_eq_false (by omega)) | exact r_eql rfl rfl rfl) rfl rfl rfl ?_
    -- R9.1 30 := kernel.go:251 assign
    refine WL.v (by first | exact r_assign (v := .bool _) rfl | exact r_assign rfl) rfl rfl rfl ?_
    refine WL.fin hK1248 (fun _ _ h => h) ?_
    refine WC.condF rfl rfl ?_
    refine WC.seq fun K1249 hK1249 => ?_
    -- region 11
    refine WC.region ?_
    -- R11.0 38 := kernel.go:253 binOp
    refine WL.v (by first | exact r_eql rfl rfl (decide_eq_true (by omega)) | exact r_eql rfl rfl (decide_eq_false (by omega)) | exact r_eql rfl rfl rfl) rfl rfl rfl ?_
    -- R11.1 37 := kernel.go:253 assign
    refine WL.v (by first | exact r_assign (v := .bool _) rfl | exact r_assign rfl) rfl rfl rfl ?_
    refine WL.fin hK1249 (fun _ _ h => h) ?_
    refine WC.condF rfl rfl ?_
    refine WC.seq fun K1250 hK1250 => ?_
    -- region 13
    refine WC.region ?_
    -- R13.0 45 := kernel.go:255 binOp
    refine WL.v (by first | exact r_eql rfl rfl (decide_eq_true (by omega)) | exact r_eql rfl rfl (decide_eq_false (by omega)) | exact r_eql rfl rfl rfl) rfl rfl rfl ?_
    -- R13.1 44 := kernel.go:255 assign
    refine WL.v (by first | exact r_assign (v := .bool _) rfl | exact r_assign rfl) rfl rfl rfl ?_
    refine WL.fin hK1250 (fun _ _ h => h) ?_
    refine WC.condF rfl rfl ?_
    refine WC.seq fun K1251 hK1251 => ?_
    -- region 15
    refine WC.region ?_
    -- R15.0 52 := kernel.go:257 binOp
    refine WL.v (by first | exact r_eql rfl rfl (decide_eq_true (by omega)) | exact r_eql rfl rfl (decide_eq_false (by omega)) | exact r_eql rfl rfl rfl) rfl rfl rfl ?_
    -- R15.1 51 := kernel.go:257 assign
    refine WL.v (by first | exact r_assign (v := .bool _) rfl | exact r_assign rfl) rfl rfl rfl ?_
    refine WL.fin hK1251 (fun _ _ h => h) ?_
    refine WC.condF rfl rfl ?_
    refine WC.seq fun K1252 hK1252 => ?_
    -- region 17
    refine WC.region ?_
    -- R17.0 61 := kernel.go:259 binOp
    refine WL.v (by first | exact r_eql rfl rfl (decide_eq_true (by omega)) | exact r_eql rfl rfl (decide_eq_false (by omega)) | exact r_eql rfl rfl rfl) rfl rfl rfl ?_
    -- R17.1 60 := kernel.go:259 assign
    refine WL.v (by first | exact r_assign (v := .bool _) rfl | exact r_assign rfl) rfl rfl rfl ?_
    refine WL.fin hK1252 (fun _ _ h => h) ?_
    refine WC.condF rfl rfl ?_
    refine WC.seq fun K1253 hK1253 => ?_
    -- region 19
    refine WC.region ?_
    -- R19.0 67 := kernel.go:261 binOp
    refine WL.v (by first | exact r_eql rfl rfl (decide_eq_true (by omega)) | exact r_eql rfl rfl (decide_eq_false (by omega)) | exact r_eql rfl rfl rfl) rfl rfl rfl ?_
    -- R19.1 66 := kernel.go:261 assign
    refine WL.v (by first | exact r_assign (v := .bool _) rfl | exact r_assign rfl) rfl rfl rfl ?_
    refine WL.fin hK1253 (fun _ _ h => h) ?_
    refine WC.condT rfl rfl ?_
    refine WC.seq fun K1254 hK1254 => ?_
    -- region 20 (draws)
    refine WC.mixS [(0, true), (1, true), (2, true), (3, true), (5, true), (6, true), (4, false), (7, false), (8, false)] st ((st_one st (List.mem_cons_of_mem _ List.mem_cons_self))) ty_mixed (by kernel_rfl) fun w st => ?_
    -- R20.0 68 := kernel.go:262 move
    refine ML.v (fun w st => by first | exact r_move (v := .pointer _) rfl | exact r_move rfl) rfl rfl rfl ?_
    -- R20.1 69 := kernel.go:262 move
    refine ML.v (fun w st => by first | exact r_move (v := .int _ _) rfl | exact r_move rfl) rfl rfl rfl ?_
    -- R20.2 70 := kernel.go:262 fieldAddr
    refine ML.v (fun w st => by exact r_field ty_fld28_2 rfl) rfl rfl rfl ?_
    -- R20.3 71 := kernel.go:262 load
    refine ML.v (fun w st => by exact r_load1 (v := .int .i64 Bb) ty_one2 rfl (st.c0 (by decide))) rfl rfl rfl ?_
    -- R20.5 73 := kernel.go:262 fieldAddr
    refine ML.v (fun w st => by exact r_field ty_fld28_4 rfl) rfl rfl rfl ?_
    -- R20.6 74 := kernel.go:262 load
    refine ML.v (fun w st => by exact r_load1 (v := .int .u64 (x : Nat)) ty_one26 rfl (st.c0 (by decide))) rfl rfl rfl ?_
    refine ML.at ?_
    -- R20.4 72 := kernel.go:262 call
    refine WL.call (r_call ty_call75 rfl) rfl rfl rfl (name_ok Bb 12 st) ?_
    rintro _ w ⟨rfl, st⟩
    have hone := st_one st (List.mem_cons_of_mem _ List.mem_cons_self)
    refine ML.nxt (hone) ?_
    refine ML.at ?_
    -- R20.7 75 := kernel.go:262 call
    have st : KH w0 B s (zR b4 :: oI b3 ⟨7, A, Bb, C, x⟩ :: l) w := V.back (I := [_, _]) st
    refine WL.call (r_call ty_call83 rfl) rfl rfl rfl (write_ok hB st) ?_
    rintro _ w ⟨ovr, XO, hor, rfl, st⟩
    have hone := st.one (it := oI b3 ⟨7, A, Bb, C, x⟩) (by simp)
    obtain ⟨ar, cr, br, rfl, -, -, -, -⟩ := hor.form
    obtain ⟨Yr, st, backr⟩ := KH.out (st.perm (List.perm_append_comm_assoc XO [_] (oI b3 ⟨7, A, Bb, C, x⟩ :: l)))
    refine ML.nxt (hone) ?_
    refine ML.at ?_
    -- R20.8 None := kernel.go:262 store
    refine WL.storeW (vs := [_, _, _]) st ty_agg34 rfl rfl rfl rfl rfl rfl ?_
    intro w st
    have hone := (backr st).one (it := oI b3 ⟨7, A, Bb, C, x⟩) (by simp)
    refine ML.nxt (hone) ?_
    refine ML.wl ?_
    refine WL.fin hK1254 (fun _ _ h => h) ?_
    refine WC.retC (vs := [_, _, _]) Tryz.results52 (fun _ _ h => h) rfl ty_agg34 rfl ⟨(by first | assumption | exact st.c0 (by first | decide | omega) | exact st.c1 (by first | decide | omega) | exact st.c2 (by first | decide | omega) | exact st.c3 (by first | decide | omega) | exact st.c4 (by first | decide | omega) | exact st.c5 (by first | decide | omega) | exact st.c6 (by first | decide | omega) | exact st.c7 (by first | decide | omega) | exact st.c8 (by first | decide | omega)), (by first | assumption | exact st.c0 (by first | decide | omega) | exact st.c1 (by first | decide | omega) | exact st.c2 (by first | decide | omega) | exact st.c3 (by first | decide | omega) | exact st.c4 (by first | decide | omega) | exact st.c5 (by first | decide | omega) | exact st.c6 (by first | decide | omega) | exact st.c7 (by first | decide | omega) | exact st.c8 (by first | decide | omega)), (by first | assumption | exact st.c0 (by first | decide | omega) | exact st.c1 (by first | decide | omega) | exact st.c2 (by first | decide | omega) | exact st.c3 (by first | decide | omega) | exact st.c4 (by first | decide | omega) | exact st.c5 (by first | decide | omega) | exact st.c6 (by first | decide | omega) | exact st.c7 (by first | decide | omega) | exact st.c8 (by first | decide | omega)), trivial⟩ ?_
    exact ⟨_, rfl, _, XO, hor, rfl, (backr st).drop.sub ((List.sublist_cons_self _ _).append_left _)⟩
  by_cases hk8 : k = 8
  · subst hk8
    refine enter [.pointer (some ⟨B.bk, 0, none⟩), .agg #[.int .u8 ((8 : Nat) : Int), .int .i64 A, .int .i64 Bb, .int .i64 C, .int .u64 (x : Nat)]] Tryz.func52 rfl Tryz.ntmps52 rfl ?_
    show WC _ _ _ 96 [] [(0, .pointer (some ⟨B.bk, 0, none⟩)), (1, .agg #[.int .u8 ((8 : Nat) : Int), .int .i64 A, .int .i64 Bb, .int .i64 C, .int .u64 (x : Nat)])] _
    refine WC.seq fun K1255 hK1255 => ?_
    -- region 0
    refine WC.region ?_
    -- R0.0 3 := kernel.go:242 box
    first | refine WL.box (m := 5) (vs := [.int _ _, .int _ _, .int _ _, .int _ _, .int _ _]) st rfl rfl rfl rfl rfl rfl ?_ | refine WL.box (m := 5) (vs := [_, _, _, _, _]) st rfl rfl rfl rfl rfl rfl ?_ | refine WL.box st rfl rfl rfl rfl rfl rfl ?_
    intro b3 w st
    -- R0.1 4 := kernel.go:242 alloc
    refine WL.alloc (m := 3) st ty_zero34 rfl rfl rfl ?_
    intro b4 w st
    refine WL.fin hK1255 (fun _ _ h => h) ?_
    refine WC.seq fun K1256 hK1256 => ?_
    -- region 1
    refine WC.region ?_
    -- R1.0 8 := kernel.go:243 fieldAddr
    refine WL.v (by exact r_field ty_fld28_1 rfl) rfl rfl rfl ?_
    -- R1.1 9 := kernel.go:243 load
    refine WL.v (by exact r_load1 (v := .int .i64 A) ty_one2 rfl (st.drop.c0 (by decide))) rfl rfl rfl ?_
    -- R1.2 10 := kernel.go:243 call
    refine WL.call (r_call ty_call75 rfl) rfl rfl rfl (name_ok A 16 st) ?_
    rintro _ w ⟨rfl, st⟩
    -- R1.3 5 := kernel.go:243 assign
    refine WL.v (by first | exact r_assign (v := .int _ _) rfl | exact r_assign rfl) rfl rfl rfl ?_
    refine WL.fin hK1256 (fun _ _ h => h) ?_
    refine WC.seq fun K1257 hK1257 => ?_
    -- region 2
    refine WC.region ?_
    -- R2.0 11 := kernel.go:244 fieldAddr
    refine WL.v (by exact r_field ty_fld28_2 rfl) rfl rfl rfl ?_
    -- R2.1 12 := kernel.go:244 load
    refine WL.v (by exact r_load1 (v := .int .i64 Bb) ty_one2 rfl (st.drop.c0 (by decide))) rfl rfl rfl ?_
    -- R2.2 13 := kernel.go:244 call
    refine WL.call (r_call ty_call75 rfl) rfl rfl rfl (name_ok Bb 20 st) ?_
    rintro _ w ⟨rfl, st⟩
    -- R2.3 6 := kernel.go:244 assign
    refine WL.v (by first | exact r_assign (v := .int _ _) rfl | exact r_assign rfl) rfl rfl rfl ?_
    refine WL.fin hK1257 (fun _ _ h => h) ?_
    refine WC.seq fun K1258 hK1258 => ?_
    -- region 3
    refine WC.region ?_
    -- R3.0 14 := kernel.go:245 fieldAddr
    refine WL.v (by exact r_field ty_fld28_3 rfl) rfl rfl rfl ?_
    -- R3.1 15 := kernel.go:245 load
    refine WL.v (by exact r_load1 (v := .int .i64 C) ty_one2 rfl (st.drop.c0 (by decide))) rfl rfl rfl ?_
    -- R3.2 16 := kernel.go:245 call
    refine WL.call (r_call ty_call75 rfl) rfl rfl rfl (name_ok C 17 st) ?_
    rintro _ w ⟨rfl, st⟩
    -- R3.3 7 := kernel.go:245 assign
    refine WL.v (by first | exact r_assign (v := .int _ _) rfl | exact r_assign rfl) rfl rfl rfl ?_
    refine WL.fin hK1258 (fun _ _ h => h) ?_
    refine WC.seq fun K1259 hK1259 => ?_
    refine WC.seq fun K1260 hK1260 => ?_
    -- region 4
    refine WC.region ?_
    -- R4.0 17 := kernel.go:246 fieldAddr
    refine WL.v (by exact r_field ty_fld28_0 rfl) rfl rfl rfl ?_
    -- R4.1 18 := kernel.go:246 load
    refine WL.v (by exact r_load1 (v := .int .u8 ((8 : Nat) : Int)) ty_one25 rfl (st.drop.c0 (by decide))) rfl rfl rfl ?_
    refine WL.fin hK1260 (fun _ _ h => h) ?_
    refine WC.block ?_
    refine WC.seq fun K1261 hK1261 => ?_
    -- region 5
    refine WC.region ?_
    -- R5.0 20 := kernel.go:247 binOp
    refine WL.v (by first | exact r_eql rfl rfl (decide_eq_true (by omega)) | exact r_eql rfl rfl (decide_eq_false (by omega)) | exact r_eql rfl rfl rfl) rfl rfl rfl ?_
    -- R5.1 19 := kernel.go:247 assign
    refine WL.v (by first | exact r_assign (v := .bool _) rfl | exact r_assign rfl) rfl rfl rfl ?_
    refine WL.fin hK1261 (fun _ _ h => h) ?_
    refine WC.condF rfl rfl ?_
    refine WC.seq fun K1262 hK1262 => ?_
    -- region 7
    refine WC.region ?_
    -- R7.0 27 := kernel.go:249 binOp
    refine WL.v (by first | exact r_eql rfl rfl (decide_eq_true (by omega)) | exact r_eql rfl rfl (decide_eq_false (by omega)) | exact r_eql rfl rfl rfl) rfl rfl rfl ?_
    -- R7.1 26 := kernel.go:249 assign
    refine WL.v (by first | exact r_assign (v := .bool _) rfl | exact r_assign rfl) rfl rfl rfl ?_
    refine WL.fin hK1262 (fun _ _ h => h) ?_
    refine WC.condF rfl rfl ?_
    refine WC.seq fun K1263 hK1263 => ?_
    -- region 9
    refine WC.region ?_
    -- R9.0 31 := kernel.go:251 binOp
    refine WL.v (by first | exact r_eql rfl rfl (decide_eq_true (by omega)) | exact r_eql rfl rfl (decide_eq_false (by omega)) | exact r_eql rfl rfl rfl) rfl rfl rfl ?_
    -- R9.1 30 := kernel.go:251 assign
    refine WL.v (by first | exact r_assign (v := .bool _) rfl | exact r_assign rfl) rfl rfl rfl ?_
    refine WL.fin hK1263 (fun _ _ h => h) ?_
    refine WC.condF rfl rfl ?_
    refine WC.seq fun K1264 hK1264 => ?_
    -- region 11
    refine WC.region ?_
    -- R11.0 38 := kernel.go:253 binOp
    refine WL.v (by first | exact r_eql rfl rfl (decide_eq_true (by omega)) | exact r_eql rfl rfl (decide_eq_false (by omega)) | exact r_eql rfl rfl rfl) rfl rfl rfl ?_
    -- R11.1 37 := kernel.go:253 assign
    refine WL.v (by first | exact r_assign (v := .bool _) rfl | exact r_assign rfl) rfl rfl rfl ?_
    refine WL.fin hK1264 (fun _ _ h => h) ?_
    refine WC.condF rfl rfl ?_
    refine WC.seq fun K1265 hK1265 => ?_
    -- region 13
    refine WC.region ?_
    -- R13.0 45 := kernel.go:255 binOp
    refine WL.v (by first | exact r_eql rfl rfl (decide_eq_true (by omega)) | exact r_eql rfl rfl (decide_eq_false (by omega)) | exact r_eql rfl rfl rfl) rfl rfl rfl ?_
    -- R13.1 44 := kernel.go:255 assign
    refine WL.v (by first | exact r_assign (v := .bool _) rfl | exact r_assign rfl) rfl rfl rfl ?_
    refine WL.fin hK1265 (fun _ _ h => h) ?_
    refine WC.condF rfl rfl ?_
    refine WC.seq fun K1266 hK1266 => ?_
    -- region 15
    refine WC.region ?_
    -- R15.0 52 := kernel.go:257 binOp
    refine WL.v (by first | exact r_eql rfl rfl (decide_eq_true (by omega)) | exact r_eql rfl rfl (decide_eq_false (by omega)) | exact r_eql rfl rfl rfl) rfl rfl rfl ?_
    -- R15.1 51 := kernel.go:257 assign
    refine WL.v (by first | exact r_assign (v := .bool _) rfl | exact r_assign rfl) rfl rfl rfl ?_
    refine WL.fin hK1266 (fun _ _ h => h) ?_
    refine WC.condF rfl rfl ?_
    refine WC.seq fun K1267 hK1267 => ?_
    -- region 17
    refine WC.region ?_
    -- R17.0 61 := kernel.go:259 binOp
    refine WL.v (by first | exact r_eql rfl rfl (decide_eq_true (by omega)) | exact r_eql rfl rfl (decide_eq_false (by omega)) | exact r_eql rfl rfl rfl) rfl rfl rfl ?_
    -- R17.1 60 := kernel.go:259 assign
    refine WL.v (by first | exact r_assign (v := .bool _) rfl | exact r_assign rfl) rfl rfl rfl ?_
    refine WL.fin hK1267 (fun _ _ h => h) ?_
    refine WC.condF rfl rfl ?_
    refine WC.seq fun K1268 hK1268 => ?_
    -- region 19
    refine WC.region ?_
    -- R19.0 67 := kernel.go:261 binOp
    refine WL.v (by first | exact r_eql rfl rfl (decide_eq_true (by omega)) | exact r_eql rfl rfl (decide_eq_false (by omega)) | exact r_eql rfl rfl rfl) rfl rfl rfl ?_
    -- R19.1 66 := kernel.go:261 assign
    refine WL.v (by first | exact r_assign (v := .bool _) rfl | exact r_assign rfl) rfl rfl rfl ?_
    refine WL.fin hK1268 (fun _ _ h => h) ?_
    refine WC.condF rfl rfl ?_
    refine WC.seq fun K1269 hK1269 => ?_
    -- region 21
    refine WC.region ?_
    -- R21.0 77 := kernel.go:263 binOp
    refine WL.v (by first | exact r_eql rfl rfl (decide_eq_true (by omega)) | exact r_eql rfl rfl (decide_eq_false (by omega)) | exact r_eql rfl rfl rfl) rfl rfl rfl ?_
    -- R21.1 76 := kernel.go:263 assign
    refine WL.v (by first | exact r_assign (v := .bool _) rfl | exact r_assign rfl) rfl rfl rfl ?_
    refine WL.fin hK1269 (fun _ _ h => h) ?_
    refine WC.condT rfl rfl ?_
    refine WC.seq fun K1270 hK1270 => ?_
    -- region 22
    refine WC.region ?_
    -- R22.0 78 := kernel.go:264 move
    refine WL.v (by first | exact r_move (v := .pointer _) rfl | exact r_move rfl) rfl rfl rfl ?_
    -- R22.1 79 := kernel.go:264 move
    refine WL.v (by first | exact r_move (v := .int _ _) rfl | exact r_move rfl) rfl rfl rfl ?_
    -- R22.2 80 := kernel.go:264 call
    have st : KH w0 B s (zR b4 :: oI b3 ⟨8, A, Bb, C, x⟩ :: l) w := V.back (I := [_, _]) st
    refine WL.call (r_call ty_call84 rfl) rfl rfl rfl (commit_ok st) ?_
    rintro _ w ⟨ovr, XO, hor, rfl, st⟩
    have hone := st.one (it := oI b3 ⟨8, A, Bb, C, x⟩) (by simp)
    obtain ⟨ar, cr, br, rfl, -, -, -, -⟩ := hor.form
    obtain ⟨Yr, st, backr⟩ := KH.out (st.perm (List.perm_append_comm_assoc XO [_] (oI b3 ⟨8, A, Bb, C, x⟩ :: l)))
    -- R22.3 None := kernel.go:264 store
    first | refine WL.storeW (vs := [_, _, _]) st ty_agg34 rfl rfl rfl rfl rfl rfl ?_ | refine WL.storeL (vs := [_, _, _]) st ty_agg34 rfl rfl rfl rfl (by first | decide | omega) rfl rfl ?_ | refine WL.storeW (vs := [_, _, _]) st.front1 ty_agg34 rfl rfl rfl rfl rfl rfl ?_ | refine WL.storeL (vs := [_, _, _]) st.front1 ty_agg34 rfl rfl rfl rfl (by first | decide | omega) rfl rfl ?_ | refine WL.storeW (vs := [_, _, _]) st.front2 ty_agg34 rfl rfl rfl rfl rfl rfl ?_ | refine WL.storeL (vs := [_, _, _]) st.front2 ty_agg34 rfl rfl rfl rfl (by first | decide | omega) rfl rfl ?_ | refine WL.storeW (vs := [_, _, _]) st.front3 ty_agg34 rfl rfl rfl rfl rfl rfl ?_ | refine WL.storeL (vs := [_, _, _]) st.front3 ty_agg34 rfl rfl rfl rfl (by first | decide | omega) rfl rfl ?_ | refine WL.storeW (vs := [_, _, _]) st.front4 ty_agg34 rfl rfl rfl rfl rfl rfl ?_ | refine WL.storeL (vs := [_, _, _]) st.front4 ty_agg34 rfl rfl rfl rfl (by first | decide | omega) rfl rfl ?_ | refine WL.storeW (vs := [_, _, _]) st.front5 ty_agg34 rfl rfl rfl rfl rfl rfl ?_ | refine WL.storeL (vs := [_, _, _]) st.front5 ty_agg34 rfl rfl rfl rfl (by first | decide | omega) rfl rfl ?_ | refine WL.storeW (vs := [_, _, _]) st.front6 ty_agg34 rfl rfl rfl rfl rfl rfl ?_ | refine WL.storeL (vs := [_, _, _]) st.front6 ty_agg34 rfl rfl rfl rfl (by first | decide | omega) rfl rfl ?_ | refine WL.storeW (vs := [_, _, _]) st.front7 ty_agg34 rfl rfl rfl rfl rfl rfl ?_ | refine WL.storeL (vs := [_, _, _]) st.front7 ty_agg34 rfl rfl rfl rfl (by first | decide | omega) rfl rfl ?_ | refine WL.storeW (vs := [_, _, _]) st.front8 ty_agg34 rfl rfl rfl rfl rfl rfl ?_ | refine WL.storeL (vs := [_, _, _]) st.front8 ty_agg34 rfl rfl rfl rfl (by first | decide | omega) rfl rfl ?_
    intro w st
    refine WL.fin hK1270 (fun _ _ h => h) ?_
    refine WC.retC (vs := [_, _, _]) Tryz.results52 (fun _ _ h => h) rfl ty_agg34 rfl ⟨(by first | assumption | exact st.c0 (by first | decide | omega) | exact st.c1 (by first | decide | omega) | exact st.c2 (by first | decide | omega) | exact st.c3 (by first | decide | omega) | exact st.c4 (by first | decide | omega) | exact st.c5 (by first | decide | omega) | exact st.c6 (by first | decide | omega) | exact st.c7 (by first | decide | omega) | exact st.c8 (by first | decide | omega)), (by first | assumption | exact st.c0 (by first | decide | omega) | exact st.c1 (by first | decide | omega) | exact st.c2 (by first | decide | omega) | exact st.c3 (by first | decide | omega) | exact st.c4 (by first | decide | omega) | exact st.c5 (by first | decide | omega) | exact st.c6 (by first | decide | omega) | exact st.c7 (by first | decide | omega) | exact st.c8 (by first | decide | omega)), (by first | assumption | exact st.c0 (by first | decide | omega) | exact st.c1 (by first | decide | omega) | exact st.c2 (by first | decide | omega) | exact st.c3 (by first | decide | omega) | exact st.c4 (by first | decide | omega) | exact st.c5 (by first | decide | omega) | exact st.c6 (by first | decide | omega) | exact st.c7 (by first | decide | omega) | exact st.c8 (by first | decide | omega)), trivial⟩ ?_
    exact ⟨_, rfl, _, XO, hor, rfl, (backr st).drop.sub ((List.sublist_cons_self _ _).append_left _)⟩
  by_cases hk9 : k = 9
  · subst hk9
    refine enter [.pointer (some ⟨B.bk, 0, none⟩), .agg #[.int .u8 ((9 : Nat) : Int), .int .i64 A, .int .i64 Bb, .int .i64 C, .int .u64 (x : Nat)]] Tryz.func52 rfl Tryz.ntmps52 rfl ?_
    show WC _ _ _ 96 [] [(0, .pointer (some ⟨B.bk, 0, none⟩)), (1, .agg #[.int .u8 ((9 : Nat) : Int), .int .i64 A, .int .i64 Bb, .int .i64 C, .int .u64 (x : Nat)])] _
    refine WC.seq fun K1271 hK1271 => ?_
    -- region 0
    refine WC.region ?_
    -- R0.0 3 := kernel.go:242 box
    first | refine WL.box (m := 5) (vs := [.int _ _, .int _ _, .int _ _, .int _ _, .int _ _]) st rfl rfl rfl rfl rfl rfl ?_ | refine WL.box (m := 5) (vs := [_, _, _, _, _]) st rfl rfl rfl rfl rfl rfl ?_ | refine WL.box st rfl rfl rfl rfl rfl rfl ?_
    intro b3 w st
    -- R0.1 4 := kernel.go:242 alloc
    refine WL.alloc (m := 3) st ty_zero34 rfl rfl rfl ?_
    intro b4 w st
    refine WL.fin hK1271 (fun _ _ h => h) ?_
    refine WC.seq fun K1272 hK1272 => ?_
    -- region 1
    refine WC.region ?_
    -- R1.0 8 := kernel.go:243 fieldAddr
    refine WL.v (by exact r_field ty_fld28_1 rfl) rfl rfl rfl ?_
    -- R1.1 9 := kernel.go:243 load
    refine WL.v (by exact r_load1 (v := .int .i64 A) ty_one2 rfl (st.drop.c0 (by decide))) rfl rfl rfl ?_
    -- R1.2 10 := kernel.go:243 call
    refine WL.call (r_call ty_call75 rfl) rfl rfl rfl (name_ok A 16 st) ?_
    rintro _ w ⟨rfl, st⟩
    -- R1.3 5 := kernel.go:243 assign
    refine WL.v (by first | exact r_assign (v := .int _ _) rfl | exact r_assign rfl) rfl rfl rfl ?_
    refine WL.fin hK1272 (fun _ _ h => h) ?_
    refine WC.seq fun K1273 hK1273 => ?_
    -- region 2
    refine WC.region ?_
    -- R2.0 11 := kernel.go:244 fieldAddr
    refine WL.v (by exact r_field ty_fld28_2 rfl) rfl rfl rfl ?_
    -- R2.1 12 := kernel.go:244 load
    refine WL.v (by exact r_load1 (v := .int .i64 Bb) ty_one2 rfl (st.drop.c0 (by decide))) rfl rfl rfl ?_
    -- R2.2 13 := kernel.go:244 call
    refine WL.call (r_call ty_call75 rfl) rfl rfl rfl (name_ok Bb 20 st) ?_
    rintro _ w ⟨rfl, st⟩
    -- R2.3 6 := kernel.go:244 assign
    refine WL.v (by first | exact r_assign (v := .int _ _) rfl | exact r_assign rfl) rfl rfl rfl ?_
    refine WL.fin hK1273 (fun _ _ h => h) ?_
    refine WC.seq fun K1274 hK1274 => ?_
    -- region 3
    refine WC.region ?_
    -- R3.0 14 := kernel.go:245 fieldAddr
    refine WL.v (by exact r_field ty_fld28_3 rfl) rfl rfl rfl ?_
    -- R3.1 15 := kernel.go:245 load
    refine WL.v (by exact r_load1 (v := .int .i64 C) ty_one2 rfl (st.drop.c0 (by decide))) rfl rfl rfl ?_
    -- R3.2 16 := kernel.go:245 call
    refine WL.call (r_call ty_call75 rfl) rfl rfl rfl (name_ok C 17 st) ?_
    rintro _ w ⟨rfl, st⟩
    -- R3.3 7 := kernel.go:245 assign
    refine WL.v (by first | exact r_assign (v := .int _ _) rfl | exact r_assign rfl) rfl rfl rfl ?_
    refine WL.fin hK1274 (fun _ _ h => h) ?_
    refine WC.seq fun K1275 hK1275 => ?_
    refine WC.seq fun K1276 hK1276 => ?_
    -- region 4
    refine WC.region ?_
    -- R4.0 17 := kernel.go:246 fieldAddr
    refine WL.v (by exact r_field ty_fld28_0 rfl) rfl rfl rfl ?_
    -- R4.1 18 := kernel.go:246 load
    refine WL.v (by exact r_load1 (v := .int .u8 ((9 : Nat) : Int)) ty_one25 rfl (st.drop.c0 (by decide))) rfl rfl rfl ?_
    refine WL.fin hK1276 (fun _ _ h => h) ?_
    refine WC.block ?_
    refine WC.seq fun K1277 hK1277 => ?_
    -- region 5
    refine WC.region ?_
    -- R5.0 20 := kernel.go:247 binOp
    refine WL.v (by first | exact r_eql rfl rfl (decide_eq_true (by omega)) | exact r_eql rfl rfl (decide_eq_false (by omega)) | exact r_eql rfl rfl rfl) rfl rfl rfl ?_
    -- R5.1 19 := kernel.go:247 assign
    refine WL.v (by first | exact r_assign (v := .bool _) rfl | exact r_assign rfl) rfl rfl rfl ?_
    refine WL.fin hK1277 (fun _ _ h => h) ?_
    refine WC.condF rfl rfl ?_
    refine WC.seq fun K1278 hK1278 => ?_
    -- region 7
    refine WC.region ?_
    -- R7.0 27 := kernel.go:249 binOp
    refine WL.v (by first | exact r_eql rfl rfl (decide_eq_true (by omega)) | exact r_eql rfl rfl (decide_eq_false (by omega)) | exact r_eql rfl rfl rfl) rfl rfl rfl ?_
    -- R7.1 26 := kernel.go:249 assign
    refine WL.v (by first | exact r_assign (v := .bool _) rfl | exact r_assign rfl) rfl rfl rfl ?_
    refine WL.fin hK1278 (fun _ _ h => h) ?_
    refine WC.condF rfl rfl ?_
    refine WC.seq fun K1279 hK1279 => ?_
    -- region 9
    refine WC.region ?_
    -- R9.0 31 := kernel.go:251 binOp
    refine WL.v (by first | exact r_eql rfl rfl (decide_eq_true (by omega)) | exact r_eql rfl rfl (decide_eq_false (by omega)) | exact r_eql rfl rfl rfl) rfl rfl rfl ?_
    -- R9.1 30 := kernel.go:251 assign
    refine WL.v (by first | exact r_assign (v := .bool _) rfl | exact r_assign rfl) rfl rfl rfl ?_
    refine WL.fin hK1279 (fun _ _ h => h) ?_
    refine WC.condF rfl rfl ?_
    refine WC.seq fun K1280 hK1280 => ?_
    -- region 11
    refine WC.region ?_
    -- R11.0 38 := kernel.go:253 binOp
    refine WL.v (by first | exact r_eql rfl rfl (decide_eq_true (by omega)) | exact r_eql rfl rfl (decide_eq_false (by omega)) | exact r_eql rfl rfl rfl) rfl rfl rfl ?_
    -- R11.1 37 := kernel.go:253 assign
    refine WL.v (by first | exact r_assign (v := .bool _) rfl | exact r_assign rfl) rfl rfl rfl ?_
    refine WL.fin hK1280 (fun _ _ h => h) ?_
    refine WC.condF rfl rfl ?_
    refine WC.seq fun K1281 hK1281 => ?_
    -- region 13
    refine WC.region ?_
    -- R13.0 45 := kernel.go:255 binOp
    refine WL.v (by first | exact r_eql rfl rfl (decide_eq_true (by omega)) | exact r_eql rfl rfl (decide_eq_false (by omega)) | exact r_eql rfl rfl rfl) rfl rfl rfl ?_
    -- R13.1 44 := kernel.go:255 assign
    refine WL.v (by first | exact r_assign (v := .bool _) rfl | exact r_assign rfl) rfl rfl rfl ?_
    refine WL.fin hK1281 (fun _ _ h => h) ?_
    refine WC.condF rfl rfl ?_
    refine WC.seq fun K1282 hK1282 => ?_
    -- region 15
    refine WC.region ?_
    -- R15.0 52 := kernel.go:257 binOp
    refine WL.v (by first | exact r_eql rfl rfl (decide_eq_true (by omega)) | exact r_eql rfl rfl (decide_eq_false (by omega)) | exact r_eql rfl rfl rfl) rfl rfl rfl ?_
    -- R15.1 51 := kernel.go:257 assign
    refine WL.v (by first | exact r_assign (v := .bool _) rfl | exact r_assign rfl) rfl rfl rfl ?_
    refine WL.fin hK1282 (fun _ _ h => h) ?_
    refine WC.condF rfl rfl ?_
    refine WC.seq fun K1283 hK1283 => ?_
    -- region 17
    refine WC.region ?_
    -- R17.0 61 := kernel.go:259 binOp
    refine WL.v (by first | exact r_eql rfl rfl (decide_eq_true (by omega)) | exact r_eql rfl rfl (decide_eq_false (by omega)) | exact r_eql rfl rfl rfl) rfl rfl rfl ?_
    -- R17.1 60 := kernel.go:259 assign
    refine WL.v (by first | exact r_assign (v := .bool _) rfl | exact r_assign rfl) rfl rfl rfl ?_
    refine WL.fin hK1283 (fun _ _ h => h) ?_
    refine WC.condF rfl rfl ?_
    refine WC.seq fun K1284 hK1284 => ?_
    -- region 19
    refine WC.region ?_
    -- R19.0 67 := kernel.go:261 binOp
    refine WL.v (by first | exact r_eql rfl rfl (decide_eq_true (by omega)) | exact r_eql rfl rfl (decide_eq_false (by omega)) | exact r_eql rfl rfl rfl) rfl rfl rfl ?_
    -- R19.1 66 := kernel.go:261 assign
    refine WL.v (by first | exact r_assign (v := .bool _) rfl | exact r_assign rfl) rfl rfl rfl ?_
    refine WL.fin hK1284 (fun _ _ h => h) ?_
    refine WC.condF rfl rfl ?_
    refine WC.seq fun K1285 hK1285 => ?_
    -- region 21
    refine WC.region ?_
    -- R21.0 77 := kernel.go:263 binOp
    refine WL.v (by first | exact r_eql rfl rfl (decide_eq_true (by omega)) | exact r_eql rfl rfl (decide_eq_false (by omega)) | exact r_eql rfl rfl rfl) rfl rfl rfl ?_
    -- R21.1 76 := kernel.go:263 assign
    refine WL.v (by first | exact r_assign (v := .bool _) rfl | exact r_assign rfl) rfl rfl rfl ?_
    refine WL.fin hK1285 (fun _ _ h => h) ?_
    refine WC.condF rfl rfl ?_
    refine WC.seq fun K1286 hK1286 => ?_
    -- region 23
    refine WC.region ?_
    -- R23.0 82 := kernel.go:265 binOp
    refine WL.v (by first | exact r_eql rfl rfl (decide_eq_true (by omega)) | exact r_eql rfl rfl (decide_eq_false (by omega)) | exact r_eql rfl rfl rfl) rfl rfl rfl ?_
    -- R23.1 81 := kernel.go:265 assign
    refine WL.v (by first | exact r_assign (v := .bool _) rfl | exact r_assign rfl) rfl rfl rfl ?_
    refine WL.fin hK1286 (fun _ _ h => h) ?_
    refine WC.condT rfl rfl ?_
    refine WC.seq fun K1287 hK1287 => ?_
    -- region 24
    refine WC.region ?_
    -- R24.0 83 := kernel.go:266 move
    refine WL.v (by first | exact r_move (v := .pointer _) rfl | exact r_move rfl) rfl rfl rfl ?_
    -- R24.1 84 := kernel.go:266 move
    refine WL.v (by first | exact r_move (v := .int _ _) rfl | exact r_move rfl) rfl rfl rfl ?_
    -- R24.2 85 := kernel.go:266 call
    have st : KH w0 B s (zR b4 :: oI b3 ⟨9, A, Bb, C, x⟩ :: l) w := V.back (I := [_, _]) st
    refine WL.call (r_call ty_call85 rfl) rfl rfl rfl (exit_ok hB hNN st) ?_
    rintro _ w ⟨ovr, XO, hor, rfl, st⟩
    have hone := st.one (it := oI b3 ⟨9, A, Bb, C, x⟩) (by simp)
    obtain ⟨ar, cr, br, rfl, -, -, -, -⟩ := hor.form
    obtain ⟨Yr, st, backr⟩ := KH.out (st.perm (List.perm_append_comm_assoc XO [_] (oI b3 ⟨9, A, Bb, C, x⟩ :: l)))
    -- R24.3 None := kernel.go:266 store
    first | refine WL.storeW (vs := [_, _, _]) st ty_agg34 rfl rfl rfl rfl rfl rfl ?_ | refine WL.storeL (vs := [_, _, _]) st ty_agg34 rfl rfl rfl rfl (by first | decide | omega) rfl rfl ?_ | refine WL.storeW (vs := [_, _, _]) st.front1 ty_agg34 rfl rfl rfl rfl rfl rfl ?_ | refine WL.storeL (vs := [_, _, _]) st.front1 ty_agg34 rfl rfl rfl rfl (by first | decide | omega) rfl rfl ?_ | refine WL.storeW (vs := [_, _, _]) st.front2 ty_agg34 rfl rfl rfl rfl rfl rfl ?_ | refine WL.storeL (vs := [_, _, _]) st.front2 ty_agg34 rfl rfl rfl rfl (by first | decide | omega) rfl rfl ?_ | refine WL.storeW (vs := [_, _, _]) st.front3 ty_agg34 rfl rfl rfl rfl rfl rfl ?_ | refine WL.storeL (vs := [_, _, _]) st.front3 ty_agg34 rfl rfl rfl rfl (by first | decide | omega) rfl rfl ?_ | refine WL.storeW (vs := [_, _, _]) st.front4 ty_agg34 rfl rfl rfl rfl rfl rfl ?_ | refine WL.storeL (vs := [_, _, _]) st.front4 ty_agg34 rfl rfl rfl rfl (by first | decide | omega) rfl rfl ?_ | refine WL.storeW (vs := [_, _, _]) st.front5 ty_agg34 rfl rfl rfl rfl rfl rfl ?_ | refine WL.storeL (vs := [_, _, _]) st.front5 ty_agg34 rfl rfl rfl rfl (by first | decide | omega) rfl rfl ?_ | refine WL.storeW (vs := [_, _, _]) st.front6 ty_agg34 rfl rfl rfl rfl rfl rfl ?_ | refine WL.storeL (vs := [_, _, _]) st.front6 ty_agg34 rfl rfl rfl rfl (by first | decide | omega) rfl rfl ?_ | refine WL.storeW (vs := [_, _, _]) st.front7 ty_agg34 rfl rfl rfl rfl rfl rfl ?_ | refine WL.storeL (vs := [_, _, _]) st.front7 ty_agg34 rfl rfl rfl rfl (by first | decide | omega) rfl rfl ?_ | refine WL.storeW (vs := [_, _, _]) st.front8 ty_agg34 rfl rfl rfl rfl rfl rfl ?_ | refine WL.storeL (vs := [_, _, _]) st.front8 ty_agg34 rfl rfl rfl rfl (by first | decide | omega) rfl rfl ?_
    intro w st
    refine WL.fin hK1287 (fun _ _ h => h) ?_
    refine WC.retC (vs := [_, _, _]) Tryz.results52 (fun _ _ h => h) rfl ty_agg34 rfl ⟨(by first | assumption | exact st.c0 (by first | decide | omega) | exact st.c1 (by first | decide | omega) | exact st.c2 (by first | decide | omega) | exact st.c3 (by first | decide | omega) | exact st.c4 (by first | decide | omega) | exact st.c5 (by first | decide | omega) | exact st.c6 (by first | decide | omega) | exact st.c7 (by first | decide | omega) | exact st.c8 (by first | decide | omega)), (by first | assumption | exact st.c0 (by first | decide | omega) | exact st.c1 (by first | decide | omega) | exact st.c2 (by first | decide | omega) | exact st.c3 (by first | decide | omega) | exact st.c4 (by first | decide | omega) | exact st.c5 (by first | decide | omega) | exact st.c6 (by first | decide | omega) | exact st.c7 (by first | decide | omega) | exact st.c8 (by first | decide | omega)), (by first | assumption | exact st.c0 (by first | decide | omega) | exact st.c1 (by first | decide | omega) | exact st.c2 (by first | decide | omega) | exact st.c3 (by first | decide | omega) | exact st.c4 (by first | decide | omega) | exact st.c5 (by first | decide | omega) | exact st.c6 (by first | decide | omega) | exact st.c7 (by first | decide | omega) | exact st.c8 (by first | decide | omega)), trivial⟩ ?_
    exact ⟨_, rfl, _, XO, hor, rfl, (backr st).drop.sub ((List.sublist_cons_self _ _).append_left _)⟩
  by_cases hk10 : k = 10
  · subst hk10
    refine enter [.pointer (some ⟨B.bk, 0, none⟩), .agg #[.int .u8 ((10 : Nat) : Int), .int .i64 A, .int .i64 Bb, .int .i64 C, .int .u64 (x : Nat)]] Tryz.func52 rfl Tryz.ntmps52 rfl ?_
    show WC _ _ _ 96 [] [(0, .pointer (some ⟨B.bk, 0, none⟩)), (1, .agg #[.int .u8 ((10 : Nat) : Int), .int .i64 A, .int .i64 Bb, .int .i64 C, .int .u64 (x : Nat)])] _
    refine WC.seq fun K1288 hK1288 => ?_
    -- region 0
    refine WC.region ?_
    -- R0.0 3 := kernel.go:242 box
    first | refine WL.box (m := 5) (vs := [.int _ _, .int _ _, .int _ _, .int _ _, .int _ _]) st rfl rfl rfl rfl rfl rfl ?_ | refine WL.box (m := 5) (vs := [_, _, _, _, _]) st rfl rfl rfl rfl rfl rfl ?_ | refine WL.box st rfl rfl rfl rfl rfl rfl ?_
    intro b3 w st
    -- R0.1 4 := kernel.go:242 alloc
    refine WL.alloc (m := 3) st ty_zero34 rfl rfl rfl ?_
    intro b4 w st
    refine WL.fin hK1288 (fun _ _ h => h) ?_
    refine WC.seq fun K1289 hK1289 => ?_
    -- region 1
    refine WC.region ?_
    -- R1.0 8 := kernel.go:243 fieldAddr
    refine WL.v (by exact r_field ty_fld28_1 rfl) rfl rfl rfl ?_
    -- R1.1 9 := kernel.go:243 load
    refine WL.v (by exact r_load1 (v := .int .i64 A) ty_one2 rfl (st.drop.c0 (by decide))) rfl rfl rfl ?_
    -- R1.2 10 := kernel.go:243 call
    refine WL.call (r_call ty_call75 rfl) rfl rfl rfl (name_ok A 16 st) ?_
    rintro _ w ⟨rfl, st⟩
    -- R1.3 5 := kernel.go:243 assign
    refine WL.v (by first | exact r_assign (v := .int _ _) rfl | exact r_assign rfl) rfl rfl rfl ?_
    refine WL.fin hK1289 (fun _ _ h => h) ?_
    refine WC.seq fun K1290 hK1290 => ?_
    -- region 2
    refine WC.region ?_
    -- R2.0 11 := kernel.go:244 fieldAddr
    refine WL.v (by exact r_field ty_fld28_2 rfl) rfl rfl rfl ?_
    -- R2.1 12 := kernel.go:244 load
    refine WL.v (by exact r_load1 (v := .int .i64 Bb) ty_one2 rfl (st.drop.c0 (by decide))) rfl rfl rfl ?_
    -- R2.2 13 := kernel.go:244 call
    refine WL.call (r_call ty_call75 rfl) rfl rfl rfl (name_ok Bb 20 st) ?_
    rintro _ w ⟨rfl, st⟩
    -- R2.3 6 := kernel.go:244 assign
    refine WL.v (by first | exact r_assign (v := .int _ _) rfl | exact r_assign rfl) rfl rfl rfl ?_
    refine WL.fin hK1290 (fun _ _ h => h) ?_
    refine WC.seq fun K1291 hK1291 => ?_
    -- region 3
    refine WC.region ?_
    -- R3.0 14 := kernel.go:245 fieldAddr
    refine WL.v (by exact r_field ty_fld28_3 rfl) rfl rfl rfl ?_
    -- R3.1 15 := kernel.go:245 load
    refine WL.v (by exact r_load1 (v := .int .i64 C) ty_one2 rfl (st.drop.c0 (by decide))) rfl rfl rfl ?_
    -- R3.2 16 := kernel.go:245 call
    refine WL.call (r_call ty_call75 rfl) rfl rfl rfl (name_ok C 17 st) ?_
    rintro _ w ⟨rfl, st⟩
    -- R3.3 7 := kernel.go:245 assign
    refine WL.v (by first | exact r_assign (v := .int _ _) rfl | exact r_assign rfl) rfl rfl rfl ?_
    refine WL.fin hK1291 (fun _ _ h => h) ?_
    refine WC.seq fun K1292 hK1292 => ?_
    refine WC.seq fun K1293 hK1293 => ?_
    -- region 4
    refine WC.region ?_
    -- R4.0 17 := kernel.go:246 fieldAddr
    refine WL.v (by exact r_field ty_fld28_0 rfl) rfl rfl rfl ?_
    -- R4.1 18 := kernel.go:246 load
    refine WL.v (by exact r_load1 (v := .int .u8 ((10 : Nat) : Int)) ty_one25 rfl (st.drop.c0 (by decide))) rfl rfl rfl ?_
    refine WL.fin hK1293 (fun _ _ h => h) ?_
    refine WC.block ?_
    refine WC.seq fun K1294 hK1294 => ?_
    -- region 5
    refine WC.region ?_
    -- R5.0 20 := kernel.go:247 binOp
    refine WL.v (by first | exact r_eql rfl rfl (decide_eq_true (by omega)) | exact r_eql rfl rfl (decide_eq_false (by omega)) | exact r_eql rfl rfl rfl) rfl rfl rfl ?_
    -- R5.1 19 := kernel.go:247 assign
    refine WL.v (by first | exact r_assign (v := .bool _) rfl | exact r_assign rfl) rfl rfl rfl ?_
    refine WL.fin hK1294 (fun _ _ h => h) ?_
    refine WC.condF rfl rfl ?_
    refine WC.seq fun K1295 hK1295 => ?_
    -- region 7
    refine WC.region ?_
    -- R7.0 27 := kernel.go:249 binOp
    refine WL.v (by first | exact r_eql rfl rfl (decide_eq_true (by omega)) | exact r_eql rfl rfl (decide_eq_false (by omega)) | exact r_eql rfl rfl rfl) rfl rfl rfl ?_
    -- R7.1 26 := kernel.go:249 assign
    refine WL.v (by first | exact r_assign (v := .bool _) rfl | exact r_assign rfl) rfl rfl rfl ?_
    refine WL.fin hK1295 (fun _ _ h => h) ?_
    refine WC.condF rfl rfl ?_
    refine WC.seq fun K1296 hK1296 => ?_
    -- region 9
    refine WC.region ?_
    -- R9.0 31 := kernel.go:251 binOp
    refine WL.v (by first | exact r_eql rfl rfl (decide_eq_true (by omega)) | exact r_eql rfl rfl (decide_eq_false (by omega)) | exact r_eql rfl rfl rfl) rfl rfl rfl ?_
    -- R9.1 30 := kernel.go:251 assign
    refine WL.v (by first | exact r_assign (v := .bool _) rfl | exact r_assign rfl) rfl rfl rfl ?_
    refine WL.fin hK1296 (fun _ _ h => h) ?_
    refine WC.condF rfl rfl ?_
    refine WC.seq fun K1297 hK1297 => ?_
    -- region 11
    refine WC.region ?_
    -- R11.0 38 := kernel.go:253 binOp
    refine WL.v (by first | exact r_eql rfl rfl (decide_eq_true (by omega)) | exact r_eql rfl rfl (decide_eq_false (by omega)) | exact r_eql rfl rfl rfl) rfl rfl rfl ?_
    -- R11.1 37 := kernel.go:253 assign
    refine WL.v (by first | exact r_assign (v := .bool _) rfl | exact r_assign rfl) rfl rfl rfl ?_
    refine WL.fin hK1297 (fun _ _ h => h) ?_
    refine WC.condF rfl rfl ?_
    refine WC.seq fun K1298 hK1298 => ?_
    -- region 13
    refine WC.region ?_
    -- R13.0 45 := kernel.go:255 binOp
    refine WL.v (by first | exact r_eql rfl rfl (decide_eq_true (by omega)) | exact r_eql rfl rfl (decide_eq_false (by omega)) | exact r_eql rfl rfl rfl) rfl rfl rfl ?_
    -- R13.1 44 := kernel.go:255 assign
    refine WL.v (by first | exact r_assign (v := .bool _) rfl | exact r_assign rfl) rfl rfl rfl ?_
    refine WL.fin hK1298 (fun _ _ h => h) ?_
    refine WC.condF rfl rfl ?_
    refine WC.seq fun K1299 hK1299 => ?_
    -- region 15
    refine WC.region ?_
    -- R15.0 52 := kernel.go:257 binOp
    refine WL.v (by first | exact r_eql rfl rfl (decide_eq_true (by omega)) | exact r_eql rfl rfl (decide_eq_false (by omega)) | exact r_eql rfl rfl rfl) rfl rfl rfl ?_
    -- R15.1 51 := kernel.go:257 assign
    refine WL.v (by first | exact r_assign (v := .bool _) rfl | exact r_assign rfl) rfl rfl rfl ?_
    refine WL.fin hK1299 (fun _ _ h => h) ?_
    refine WC.condF rfl rfl ?_
    refine WC.seq fun K1300 hK1300 => ?_
    -- region 17
    refine WC.region ?_
    -- R17.0 61 := kernel.go:259 binOp
    refine WL.v (by first | exact r_eql rfl rfl (decide_eq_true (by omega)) | exact r_eql rfl rfl (decide_eq_false (by omega)) | exact r_eql rfl rfl rfl) rfl rfl rfl ?_
    -- R17.1 60 := kernel.go:259 assign
    refine WL.v (by first | exact r_assign (v := .bool _) rfl | exact r_assign rfl) rfl rfl rfl ?_
    refine WL.fin hK1300 (fun _ _ h => h) ?_
    refine WC.condF rfl rfl ?_
    refine WC.seq fun K1301 hK1301 => ?_
    -- region 19
    refine WC.region ?_
    -- R19.0 67 := kernel.go:261 binOp
    refine WL.v (by first | exact r_eql rfl rfl (decide_eq_true (by omega)) | exact r_eql rfl rfl (decide_eq_false (by omega)) | exact r_eql rfl rfl rfl) rfl rfl rfl ?_
    -- R19.1 66 := kernel.go:261 assign
    refine WL.v (by first | exact r_assign (v := .bool _) rfl | exact r_assign rfl) rfl rfl rfl ?_
    refine WL.fin hK1301 (fun _ _ h => h) ?_
    refine WC.condF rfl rfl ?_
    refine WC.seq fun K1302 hK1302 => ?_
    -- region 21
    refine WC.region ?_
    -- R21.0 77 := kernel.go:263 binOp
    refine WL.v (by first | exact r_eql rfl rfl (decide_eq_true (by omega)) | exact r_eql rfl rfl (decide_eq_false (by omega)) | exact r_eql rfl rfl rfl) rfl rfl rfl ?_
    -- R21.1 76 := kernel.go:263 assign
    refine WL.v (by first | exact r_assign (v := .bool _) rfl | exact r_assign rfl) rfl rfl rfl ?_
    refine WL.fin hK1302 (fun _ _ h => h) ?_
    refine WC.condF rfl rfl ?_
    refine WC.seq fun K1303 hK1303 => ?_
    -- region 23
    refine WC.region ?_
    -- R23.0 82 := kernel.go:265 binOp
    refine WL.v (by first | exact r_eql rfl rfl (decide_eq_true (by omega)) | exact r_eql rfl rfl (decide_eq_false (by omega)) | exact r_eql rfl rfl rfl) rfl rfl rfl ?_
    -- R23.1 81 := kernel.go:265 assign
    refine WL.v (by first | exact r_assign (v := .bool _) rfl | exact r_assign rfl) rfl rfl rfl ?_
    refine WL.fin hK1303 (fun _ _ h => h) ?_
    refine WC.condF rfl rfl ?_
    refine WC.seq fun K1304 hK1304 => ?_
    -- region 25
    refine WC.region ?_
    -- R25.0 87 := kernel.go:267 binOp
    refine WL.v (by first | exact r_eql rfl rfl (decide_eq_true (by omega)) | exact r_eql rfl rfl (decide_eq_false (by omega)) | exact r_eql rfl rfl rfl) rfl rfl rfl ?_
    -- R25.1 86 := kernel.go:267 assign
    refine WL.v (by first | exact r_assign (v := .bool _) rfl | exact r_assign rfl) rfl rfl rfl ?_
    refine WL.fin hK1304 (fun _ _ h => h) ?_
    refine WC.condT rfl rfl ?_
    refine WC.seq fun K1305 hK1305 => ?_
    -- region 26
    refine WC.region ?_
    -- R26.0 88 := kernel.go:268 move
    refine WL.v (by first | exact r_move (v := .pointer _) rfl | exact r_move rfl) rfl rfl rfl ?_
    -- R26.1 89 := kernel.go:268 call
    have st : KH w0 B s (zR b4 :: oI b3 ⟨10, A, Bb, C, x⟩ :: l) w := V.back (I := [_, _]) st
    refine WL.call (r_call ty_call86 rfl) rfl rfl rfl (tick_ok hB harm4 hN4 hnow st) ?_
    rintro _ w ⟨ovr, XO, hor, rfl, st⟩
    have hone := st.one (it := oI b3 ⟨10, A, Bb, C, x⟩) (by simp)
    obtain ⟨ar, cr, br, rfl, -, -, -, -⟩ := hor.form
    obtain ⟨Yr, st, backr⟩ := KH.out (st.perm (List.perm_append_comm_assoc XO [_] (oI b3 ⟨10, A, Bb, C, x⟩ :: l)))
    -- R26.2 None := kernel.go:268 store
    first | refine WL.storeW (vs := [_, _, _]) st ty_agg34 rfl rfl rfl rfl rfl rfl ?_ | refine WL.storeL (vs := [_, _, _]) st ty_agg34 rfl rfl rfl rfl (by first | decide | omega) rfl rfl ?_ | refine WL.storeW (vs := [_, _, _]) st.front1 ty_agg34 rfl rfl rfl rfl rfl rfl ?_ | refine WL.storeL (vs := [_, _, _]) st.front1 ty_agg34 rfl rfl rfl rfl (by first | decide | omega) rfl rfl ?_ | refine WL.storeW (vs := [_, _, _]) st.front2 ty_agg34 rfl rfl rfl rfl rfl rfl ?_ | refine WL.storeL (vs := [_, _, _]) st.front2 ty_agg34 rfl rfl rfl rfl (by first | decide | omega) rfl rfl ?_ | refine WL.storeW (vs := [_, _, _]) st.front3 ty_agg34 rfl rfl rfl rfl rfl rfl ?_ | refine WL.storeL (vs := [_, _, _]) st.front3 ty_agg34 rfl rfl rfl rfl (by first | decide | omega) rfl rfl ?_ | refine WL.storeW (vs := [_, _, _]) st.front4 ty_agg34 rfl rfl rfl rfl rfl rfl ?_ | refine WL.storeL (vs := [_, _, _]) st.front4 ty_agg34 rfl rfl rfl rfl (by first | decide | omega) rfl rfl ?_ | refine WL.storeW (vs := [_, _, _]) st.front5 ty_agg34 rfl rfl rfl rfl rfl rfl ?_ | refine WL.storeL (vs := [_, _, _]) st.front5 ty_agg34 rfl rfl rfl rfl (by first | decide | omega) rfl rfl ?_ | refine WL.storeW (vs := [_, _, _]) st.front6 ty_agg34 rfl rfl rfl rfl rfl rfl ?_ | refine WL.storeL (vs := [_, _, _]) st.front6 ty_agg34 rfl rfl rfl rfl (by first | decide | omega) rfl rfl ?_ | refine WL.storeW (vs := [_, _, _]) st.front7 ty_agg34 rfl rfl rfl rfl rfl rfl ?_ | refine WL.storeL (vs := [_, _, _]) st.front7 ty_agg34 rfl rfl rfl rfl (by first | decide | omega) rfl rfl ?_ | refine WL.storeW (vs := [_, _, _]) st.front8 ty_agg34 rfl rfl rfl rfl rfl rfl ?_ | refine WL.storeL (vs := [_, _, _]) st.front8 ty_agg34 rfl rfl rfl rfl (by first | decide | omega) rfl rfl ?_
    intro w st
    refine WL.fin hK1305 (fun _ _ h => h) ?_
    refine WC.retC (vs := [_, _, _]) Tryz.results52 (fun _ _ h => h) rfl ty_agg34 rfl ⟨(by first | assumption | exact st.c0 (by first | decide | omega) | exact st.c1 (by first | decide | omega) | exact st.c2 (by first | decide | omega) | exact st.c3 (by first | decide | omega) | exact st.c4 (by first | decide | omega) | exact st.c5 (by first | decide | omega) | exact st.c6 (by first | decide | omega) | exact st.c7 (by first | decide | omega) | exact st.c8 (by first | decide | omega)), (by first | assumption | exact st.c0 (by first | decide | omega) | exact st.c1 (by first | decide | omega) | exact st.c2 (by first | decide | omega) | exact st.c3 (by first | decide | omega) | exact st.c4 (by first | decide | omega) | exact st.c5 (by first | decide | omega) | exact st.c6 (by first | decide | omega) | exact st.c7 (by first | decide | omega) | exact st.c8 (by first | decide | omega)), (by first | assumption | exact st.c0 (by first | decide | omega) | exact st.c1 (by first | decide | omega) | exact st.c2 (by first | decide | omega) | exact st.c3 (by first | decide | omega) | exact st.c4 (by first | decide | omega) | exact st.c5 (by first | decide | omega) | exact st.c6 (by first | decide | omega) | exact st.c7 (by first | decide | omega) | exact st.c8 (by first | decide | omega)), trivial⟩ ?_
    exact ⟨_, rfl, _, XO, hor, rfl, (backr st).drop.sub ((List.sublist_cons_self _ _).append_left _)⟩
  by_cases hk11 : k = 11
  · subst hk11
    refine enter [.pointer (some ⟨B.bk, 0, none⟩), .agg #[.int .u8 ((11 : Nat) : Int), .int .i64 A, .int .i64 Bb, .int .i64 C, .int .u64 (x : Nat)]] Tryz.func52 rfl Tryz.ntmps52 rfl ?_
    show WC _ _ _ 96 [] [(0, .pointer (some ⟨B.bk, 0, none⟩)), (1, .agg #[.int .u8 ((11 : Nat) : Int), .int .i64 A, .int .i64 Bb, .int .i64 C, .int .u64 (x : Nat)])] _
    refine WC.seq fun K1306 hK1306 => ?_
    -- region 0
    refine WC.region ?_
    -- R0.0 3 := kernel.go:242 box
    first | refine WL.box (m := 5) (vs := [.int _ _, .int _ _, .int _ _, .int _ _, .int _ _]) st rfl rfl rfl rfl rfl rfl ?_ | refine WL.box (m := 5) (vs := [_, _, _, _, _]) st rfl rfl rfl rfl rfl rfl ?_ | refine WL.box st rfl rfl rfl rfl rfl rfl ?_
    intro b3 w st
    -- R0.1 4 := kernel.go:242 alloc
    refine WL.alloc (m := 3) st ty_zero34 rfl rfl rfl ?_
    intro b4 w st
    refine WL.fin hK1306 (fun _ _ h => h) ?_
    refine WC.seq fun K1307 hK1307 => ?_
    -- region 1
    refine WC.region ?_
    -- R1.0 8 := kernel.go:243 fieldAddr
    refine WL.v (by exact r_field ty_fld28_1 rfl) rfl rfl rfl ?_
    -- R1.1 9 := kernel.go:243 load
    refine WL.v (by exact r_load1 (v := .int .i64 A) ty_one2 rfl (st.drop.c0 (by decide))) rfl rfl rfl ?_
    -- R1.2 10 := kernel.go:243 call
    refine WL.call (r_call ty_call75 rfl) rfl rfl rfl (name_ok A 16 st) ?_
    rintro _ w ⟨rfl, st⟩
    -- R1.3 5 := kernel.go:243 assign
    refine WL.v (by first | exact r_assign (v := .int _ _) rfl | exact r_assign rfl) rfl rfl rfl ?_
    refine WL.fin hK1307 (fun _ _ h => h) ?_
    refine WC.seq fun K1308 hK1308 => ?_
    -- region 2
    refine WC.region ?_
    -- R2.0 11 := kernel.go:244 fieldAddr
    refine WL.v (by exact r_field ty_fld28_2 rfl) rfl rfl rfl ?_
    -- R2.1 12 := kernel.go:244 load
    refine WL.v (by exact r_load1 (v := .int .i64 Bb) ty_one2 rfl (st.drop.c0 (by decide))) rfl rfl rfl ?_
    -- R2.2 13 := kernel.go:244 call
    refine WL.call (r_call ty_call75 rfl) rfl rfl rfl (name_ok Bb 20 st) ?_
    rintro _ w ⟨rfl, st⟩
    -- R2.3 6 := kernel.go:244 assign
    refine WL.v (by first | exact r_assign (v := .int _ _) rfl | exact r_assign rfl) rfl rfl rfl ?_
    refine WL.fin hK1308 (fun _ _ h => h) ?_
    refine WC.seq fun K1309 hK1309 => ?_
    -- region 3
    refine WC.region ?_
    -- R3.0 14 := kernel.go:245 fieldAddr
    refine WL.v (by exact r_field ty_fld28_3 rfl) rfl rfl rfl ?_
    -- R3.1 15 := kernel.go:245 load
    refine WL.v (by exact r_load1 (v := .int .i64 C) ty_one2 rfl (st.drop.c0 (by decide))) rfl rfl rfl ?_
    -- R3.2 16 := kernel.go:245 call
    refine WL.call (r_call ty_call75 rfl) rfl rfl rfl (name_ok C 17 st) ?_
    rintro _ w ⟨rfl, st⟩
    -- R3.3 7 := kernel.go:245 assign
    refine WL.v (by first | exact r_assign (v := .int _ _) rfl | exact r_assign rfl) rfl rfl rfl ?_
    refine WL.fin hK1309 (fun _ _ h => h) ?_
    refine WC.seq fun K1310 hK1310 => ?_
    refine WC.seq fun K1311 hK1311 => ?_
    -- region 4
    refine WC.region ?_
    -- R4.0 17 := kernel.go:246 fieldAddr
    refine WL.v (by exact r_field ty_fld28_0 rfl) rfl rfl rfl ?_
    -- R4.1 18 := kernel.go:246 load
    refine WL.v (by exact r_load1 (v := .int .u8 ((11 : Nat) : Int)) ty_one25 rfl (st.drop.c0 (by decide))) rfl rfl rfl ?_
    refine WL.fin hK1311 (fun _ _ h => h) ?_
    refine WC.block ?_
    refine WC.seq fun K1312 hK1312 => ?_
    -- region 5
    refine WC.region ?_
    -- R5.0 20 := kernel.go:247 binOp
    refine WL.v (by first | exact r_eql rfl rfl (decide_eq_true (by omega)) | exact r_eql rfl rfl (decide_eq_false (by omega)) | exact r_eql rfl rfl rfl) rfl rfl rfl ?_
    -- R5.1 19 := kernel.go:247 assign
    refine WL.v (by first | exact r_assign (v := .bool _) rfl | exact r_assign rfl) rfl rfl rfl ?_
    refine WL.fin hK1312 (fun _ _ h => h) ?_
    refine WC.condF rfl rfl ?_
    refine WC.seq fun K1313 hK1313 => ?_
    -- region 7
    refine WC.region ?_
    -- R7.0 27 := kernel.go:249 binOp
    refine WL.v (by first | exact r_eql rfl rfl (decide_eq_true (by omega)) | exact r_eql rfl rfl (decide_eq_false (by omega)) | exact r_eql rfl rfl rfl) rfl rfl rfl ?_
    -- R7.1 26 := kernel.go:249 assign
    refine WL.v (by first | exact r_assign (v := .bool _) rfl | exact r_assign rfl) rfl rfl rfl ?_
    refine WL.fin hK1313 (fun _ _ h => h) ?_
    refine WC.condF rfl rfl ?_
    refine WC.seq fun K1314 hK1314 => ?_
    -- region 9
    refine WC.region ?_
    -- R9.0 31 := kernel.go:251 binOp
    refine WL.v (by first | exact r_eql rfl rfl (decide_eq_true (by omega)) | exact r_eql rfl rfl (decide_eq_false (by omega)) | exact r_eql rfl rfl rfl) rfl rfl rfl ?_
    -- R9.1 30 := kernel.go:251 assign
    refine WL.v (by first | exact r_assign (v := .bool _) rfl | exact r_assign rfl) rfl rfl rfl ?_
    refine WL.fin hK1314 (fun _ _ h => h) ?_
    refine WC.condF rfl rfl ?_
    refine WC.seq fun K1315 hK1315 => ?_
    -- region 11
    refine WC.region ?_
    -- R11.0 38 := kernel.go:253 binOp
    refine WL.v (by first | exact r_eql rfl rfl (decide_eq_true (by omega)) | exact r_eql rfl rfl (decide_eq_false (by omega)) | exact r_eql rfl rfl rfl) rfl rfl rfl ?_
    -- R11.1 37 := kernel.go:253 assign
    refine WL.v (by first | exact r_assign (v := .bool _) rfl | exact r_assign rfl) rfl rfl rfl ?_
    refine WL.fin hK1315 (fun _ _ h => h) ?_
    refine WC.condF rfl rfl ?_
    refine WC.seq fun K1316 hK1316 => ?_
    -- region 13
    refine WC.region ?_
    -- R13.0 45 := kernel.go:255 binOp
    refine WL.v (by first | exact r_eql rfl rfl (decide_eq_true (by omega)) | exact r_eql rfl rfl (decide_eq_false (by omega)) | exact r_eql rfl rfl rfl) rfl rfl rfl ?_
    -- R13.1 44 := kernel.go:255 assign
    refine WL.v (by first | exact r_assign (v := .bool _) rfl | exact r_assign rfl) rfl rfl rfl ?_
    refine WL.fin hK1316 (fun _ _ h => h) ?_
    refine WC.condF rfl rfl ?_
    refine WC.seq fun K1317 hK1317 => ?_
    -- region 15
    refine WC.region ?_
    -- R15.0 52 := kernel.go:257 binOp
    refine WL.v (by first | exact r_eql rfl rfl (decide_eq_true (by omega)) | exact r_eql rfl rfl (decide_eq_false (by omega)) | exact r_eql rfl rfl rfl) rfl rfl rfl ?_
    -- R15.1 51 := kernel.go:257 assign
    refine WL.v (by first | exact r_assign (v := .bool _) rfl | exact r_assign rfl) rfl rfl rfl ?_
    refine WL.fin hK1317 (fun _ _ h => h) ?_
    refine WC.condF rfl rfl ?_
    refine WC.seq fun K1318 hK1318 => ?_
    -- region 17
    refine WC.region ?_
    -- R17.0 61 := kernel.go:259 binOp
    refine WL.v (by first | exact r_eql rfl rfl (decide_eq_true (by omega)) | exact r_eql rfl rfl (decide_eq_false (by omega)) | exact r_eql rfl rfl rfl) rfl rfl rfl ?_
    -- R17.1 60 := kernel.go:259 assign
    refine WL.v (by first | exact r_assign (v := .bool _) rfl | exact r_assign rfl) rfl rfl rfl ?_
    refine WL.fin hK1318 (fun _ _ h => h) ?_
    refine WC.condF rfl rfl ?_
    refine WC.seq fun K1319 hK1319 => ?_
    -- region 19
    refine WC.region ?_
    -- R19.0 67 := kernel.go:261 binOp
    refine WL.v (by first | exact r_eql rfl rfl (decide_eq_true (by omega)) | exact r_eql rfl rfl (decide_eq_false (by omega)) | exact r_eql rfl rfl rfl) rfl rfl rfl ?_
    -- R19.1 66 := kernel.go:261 assign
    refine WL.v (by first | exact r_assign (v := .bool _) rfl | exact r_assign rfl) rfl rfl rfl ?_
    refine WL.fin hK1319 (fun _ _ h => h) ?_
    refine WC.condF rfl rfl ?_
    refine WC.seq fun K1320 hK1320 => ?_
    -- region 21
    refine WC.region ?_
    -- R21.0 77 := kernel.go:263 binOp
    refine WL.v (by first | exact r_eql rfl rfl (decide_eq_true (by omega)) | exact r_eql rfl rfl (decide_eq_false (by omega)) | exact r_eql rfl rfl rfl) rfl rfl rfl ?_
    -- R21.1 76 := kernel.go:263 assign
    refine WL.v (by first | exact r_assign (v := .bool _) rfl | exact r_assign rfl) rfl rfl rfl ?_
    refine WL.fin hK1320 (fun _ _ h => h) ?_
    refine WC.condF rfl rfl ?_
    refine WC.seq fun K1321 hK1321 => ?_
    -- region 23
    refine WC.region ?_
    -- R23.0 82 := kernel.go:265 binOp
    refine WL.v (by first | exact r_eql rfl rfl (decide_eq_true (by omega)) | exact r_eql rfl rfl (decide_eq_false (by omega)) | exact r_eql rfl rfl rfl) rfl rfl rfl ?_
    -- R23.1 81 := kernel.go:265 assign
    refine WL.v (by first | exact r_assign (v := .bool _) rfl | exact r_assign rfl) rfl rfl rfl ?_
    refine WL.fin hK1321 (fun _ _ h => h) ?_
    refine WC.condF rfl rfl ?_
    refine WC.seq fun K1322 hK1322 => ?_
    -- region 25
    refine WC.region ?_
    -- R25.0 87 := kernel.go:267 binOp
    refine WL.v (by first | exact r_eql rfl rfl (decide_eq_true (by omega)) | exact r_eql rfl rfl (decide_eq_false (by omega)) | exact r_eql rfl rfl rfl) rfl rfl rfl ?_
    -- R25.1 86 := kernel.go:267 assign
    refine WL.v (by first | exact r_assign (v := .bool _) rfl | exact r_assign rfl) rfl rfl rfl ?_
    refine WL.fin hK1322 (fun _ _ h => h) ?_
    refine WC.condF rfl rfl ?_
    refine WC.seq fun K1323 hK1323 => ?_
    -- region 27
    refine WC.region ?_
    -- R27.0 91 := kernel.go:269 binOp
    refine WL.v (by first | exact r_eql rfl rfl (decide_eq_true (by omega)) | exact r_eql rfl rfl (decide_eq_false (by omega)) | exact r_eql rfl rfl rfl) rfl rfl rfl ?_
    -- R27.1 90 := kernel.go:269 assign
    refine WL.v (by first | exact r_assign (v := .bool _) rfl | exact r_assign rfl) rfl rfl rfl ?_
    refine WL.fin hK1323 (fun _ _ h => h) ?_
    refine WC.condT rfl rfl ?_
    refine WC.seq fun K1324 hK1324 => ?_
    -- region 28
    refine WC.region ?_
    -- R28.0 92 := kernel.go:270 move
    refine WL.v (by first | exact r_move (v := .pointer _) rfl | exact r_move rfl) rfl rfl rfl ?_
    -- R28.1 93 := kernel.go:270 call
    have st : KH w0 B s (zR b4 :: oI b3 ⟨11, A, Bb, C, x⟩ :: l) w := V.back (I := [_, _]) st
    refine WL.call (r_call ty_call87 rfl) rfl rfl rfl (detect_ok hD hB hN1 st) ?_
    rintro _ w ⟨ovr, XO, hor, rfl, st⟩
    have hone := st.one (it := oI b3 ⟨11, A, Bb, C, x⟩) (by simp)
    obtain ⟨ar, cr, br, rfl, -, -, -, -⟩ := hor.form
    obtain ⟨Yr, st, backr⟩ := KH.out (st.perm (List.perm_append_comm_assoc XO [_] (oI b3 ⟨11, A, Bb, C, x⟩ :: l)))
    -- R28.2 None := kernel.go:270 store
    first | refine WL.storeW (vs := [_, _, _]) st ty_agg34 rfl rfl rfl rfl rfl rfl ?_ | refine WL.storeL (vs := [_, _, _]) st ty_agg34 rfl rfl rfl rfl (by first | decide | omega) rfl rfl ?_ | refine WL.storeW (vs := [_, _, _]) st.front1 ty_agg34 rfl rfl rfl rfl rfl rfl ?_ | refine WL.storeL (vs := [_, _, _]) st.front1 ty_agg34 rfl rfl rfl rfl (by first | decide | omega) rfl rfl ?_ | refine WL.storeW (vs := [_, _, _]) st.front2 ty_agg34 rfl rfl rfl rfl rfl rfl ?_ | refine WL.storeL (vs := [_, _, _]) st.front2 ty_agg34 rfl rfl rfl rfl (by first | decide | omega) rfl rfl ?_ | refine WL.storeW (vs := [_, _, _]) st.front3 ty_agg34 rfl rfl rfl rfl rfl rfl ?_ | refine WL.storeL (vs := [_, _, _]) st.front3 ty_agg34 rfl rfl rfl rfl (by first | decide | omega) rfl rfl ?_ | refine WL.storeW (vs := [_, _, _]) st.front4 ty_agg34 rfl rfl rfl rfl rfl rfl ?_ | refine WL.storeL (vs := [_, _, _]) st.front4 ty_agg34 rfl rfl rfl rfl (by first | decide | omega) rfl rfl ?_ | refine WL.storeW (vs := [_, _, _]) st.front5 ty_agg34 rfl rfl rfl rfl rfl rfl ?_ | refine WL.storeL (vs := [_, _, _]) st.front5 ty_agg34 rfl rfl rfl rfl (by first | decide | omega) rfl rfl ?_ | refine WL.storeW (vs := [_, _, _]) st.front6 ty_agg34 rfl rfl rfl rfl rfl rfl ?_ | refine WL.storeL (vs := [_, _, _]) st.front6 ty_agg34 rfl rfl rfl rfl (by first | decide | omega) rfl rfl ?_ | refine WL.storeW (vs := [_, _, _]) st.front7 ty_agg34 rfl rfl rfl rfl rfl rfl ?_ | refine WL.storeL (vs := [_, _, _]) st.front7 ty_agg34 rfl rfl rfl rfl (by first | decide | omega) rfl rfl ?_ | refine WL.storeW (vs := [_, _, _]) st.front8 ty_agg34 rfl rfl rfl rfl rfl rfl ?_ | refine WL.storeL (vs := [_, _, _]) st.front8 ty_agg34 rfl rfl rfl rfl (by first | decide | omega) rfl rfl ?_
    intro w st
    refine WL.fin hK1324 (fun _ _ h => h) ?_
    refine WC.retC (vs := [_, _, _]) Tryz.results52 (fun _ _ h => h) rfl ty_agg34 rfl ⟨(by first | assumption | exact st.c0 (by first | decide | omega) | exact st.c1 (by first | decide | omega) | exact st.c2 (by first | decide | omega) | exact st.c3 (by first | decide | omega) | exact st.c4 (by first | decide | omega) | exact st.c5 (by first | decide | omega) | exact st.c6 (by first | decide | omega) | exact st.c7 (by first | decide | omega) | exact st.c8 (by first | decide | omega)), (by first | assumption | exact st.c0 (by first | decide | omega) | exact st.c1 (by first | decide | omega) | exact st.c2 (by first | decide | omega) | exact st.c3 (by first | decide | omega) | exact st.c4 (by first | decide | omega) | exact st.c5 (by first | decide | omega) | exact st.c6 (by first | decide | omega) | exact st.c7 (by first | decide | omega) | exact st.c8 (by first | decide | omega)), (by first | assumption | exact st.c0 (by first | decide | omega) | exact st.c1 (by first | decide | omega) | exact st.c2 (by first | decide | omega) | exact st.c3 (by first | decide | omega) | exact st.c4 (by first | decide | omega) | exact st.c5 (by first | decide | omega) | exact st.c6 (by first | decide | omega) | exact st.c7 (by first | decide | omega) | exact st.c8 (by first | decide | omega)), trivial⟩ ?_
    exact ⟨_, rfl, _, XO, hor, rfl, (backr st).drop.sub ((List.sublist_cons_self _ _).append_left _)⟩
  have e : stepP s ⟨k, A, Bb, C, x⟩ = (s, 6, -1) := by
    unfold stepP
    split <;> first | rfl | (exfalso; rename_i h; dsimp only at h; omega)
  refine enter [.pointer (some ⟨B.bk, 0, none⟩), .agg #[.int .u8 (k : Nat), .int .i64 A, .int .i64 Bb, .int .i64 C, .int .u64 (x : Nat)]] Tryz.func52 rfl Tryz.ntmps52 rfl ?_
  show WC _ _ _ 96 [] [(0, .pointer (some ⟨B.bk, 0, none⟩)), (1, .agg #[.int .u8 (k : Nat), .int .i64 A, .int .i64 Bb, .int .i64 C, .int .u64 (x : Nat)])] _
  refine WC.seq fun K1325 hK1325 => ?_
  -- region 0
  refine WC.region ?_
  -- R0.0 3 := kernel.go:242 box
  first | refine WL.box (m := 5) (vs := [.int _ _, .int _ _, .int _ _, .int _ _, .int _ _]) st rfl rfl rfl rfl rfl rfl ?_ | refine WL.box (m := 5) (vs := [_, _, _, _, _]) st rfl rfl rfl rfl rfl rfl ?_ | refine WL.box st rfl rfl rfl rfl rfl rfl ?_
  intro b3 w st
  -- R0.1 4 := kernel.go:242 alloc
  refine WL.alloc (m := 3) st ty_zero34 rfl rfl rfl ?_
  intro b4 w st
  refine WL.fin hK1325 (fun _ _ h => h) ?_
  refine WC.seq fun K1326 hK1326 => ?_
  -- region 1
  refine WC.region ?_
  -- R1.0 8 := kernel.go:243 fieldAddr
  refine WL.v (by exact r_field ty_fld28_1 rfl) rfl rfl rfl ?_
  -- R1.1 9 := kernel.go:243 load
  refine WL.v (by exact r_load1 (v := .int .i64 A) ty_one2 rfl (st.drop.c0 (by decide))) rfl rfl rfl ?_
  -- R1.2 10 := kernel.go:243 call
  refine WL.call (r_call ty_call75 rfl) rfl rfl rfl (name_ok A 16 st) ?_
  rintro _ w ⟨rfl, st⟩
  -- R1.3 5 := kernel.go:243 assign
  refine WL.v (by first | exact r_assign (v := .int _ _) rfl | exact r_assign rfl) rfl rfl rfl ?_
  refine WL.fin hK1326 (fun _ _ h => h) ?_
  refine WC.seq fun K1327 hK1327 => ?_
  -- region 2
  refine WC.region ?_
  -- R2.0 11 := kernel.go:244 fieldAddr
  refine WL.v (by exact r_field ty_fld28_2 rfl) rfl rfl rfl ?_
  -- R2.1 12 := kernel.go:244 load
  refine WL.v (by exact r_load1 (v := .int .i64 Bb) ty_one2 rfl (st.drop.c0 (by decide))) rfl rfl rfl ?_
  -- R2.2 13 := kernel.go:244 call
  refine WL.call (r_call ty_call75 rfl) rfl rfl rfl (name_ok Bb 20 st) ?_
  rintro _ w ⟨rfl, st⟩
  -- R2.3 6 := kernel.go:244 assign
  refine WL.v (by first | exact r_assign (v := .int _ _) rfl | exact r_assign rfl) rfl rfl rfl ?_
  refine WL.fin hK1327 (fun _ _ h => h) ?_
  refine WC.seq fun K1328 hK1328 => ?_
  -- region 3
  refine WC.region ?_
  -- R3.0 14 := kernel.go:245 fieldAddr
  refine WL.v (by exact r_field ty_fld28_3 rfl) rfl rfl rfl ?_
  -- R3.1 15 := kernel.go:245 load
  refine WL.v (by exact r_load1 (v := .int .i64 C) ty_one2 rfl (st.drop.c0 (by decide))) rfl rfl rfl ?_
  -- R3.2 16 := kernel.go:245 call
  refine WL.call (r_call ty_call75 rfl) rfl rfl rfl (name_ok C 17 st) ?_
  rintro _ w ⟨rfl, st⟩
  -- R3.3 7 := kernel.go:245 assign
  refine WL.v (by first | exact r_assign (v := .int _ _) rfl | exact r_assign rfl) rfl rfl rfl ?_
  refine WL.fin hK1328 (fun _ _ h => h) ?_
  refine WC.seq fun K1329 hK1329 => ?_
  refine WC.seq fun K1330 hK1330 => ?_
  -- region 4
  refine WC.region ?_
  -- R4.0 17 := kernel.go:246 fieldAddr
  refine WL.v (by exact r_field ty_fld28_0 rfl) rfl rfl rfl ?_
  -- R4.1 18 := kernel.go:246 load
  refine WL.v (by exact r_load1 (v := .int .u8 (k : Nat)) ty_one25 rfl (st.drop.c0 (by decide))) rfl rfl rfl ?_
  refine WL.fin hK1330 (fun _ _ h => h) ?_
  refine WC.block ?_
  refine WC.seq fun K1331 hK1331 => ?_
  -- region 5
  refine WC.region ?_
  -- R5.0 20 := kernel.go:247 binOp
  refine WL.v (by first | exact r_eql rfl rfl (decide_eq_true (by omega)) | exact r_eql rfl rfl (decide_eq_false (by omega)) | exact r_eql rfl rfl rfl) rfl rfl rfl ?_
  -- R5.1 19 := kernel.go:247 assign
  refine WL.v (by first | exact r_assign (v := .bool _) rfl | exact r_assign rfl) rfl rfl rfl ?_
  refine WL.fin hK1331 (fun _ _ h => h) ?_
  refine WC.condF rfl rfl ?_
  refine WC.seq fun K1332 hK1332 => ?_
  -- region 7
  refine WC.region ?_
  -- R7.0 27 := kernel.go:249 binOp
  refine WL.v (by first | exact r_eql rfl rfl (decide_eq_true (by omega)) | exact r_eql rfl rfl (decide_eq_false (by omega)) | exact r_eql rfl rfl rfl) rfl rfl rfl ?_
  -- R7.1 26 := kernel.go:249 assign
  refine WL.v (by first | exact r_assign (v := .bool _) rfl | exact r_assign rfl) rfl rfl rfl ?_
  refine WL.fin hK1332 (fun _ _ h => h) ?_
  refine WC.condF rfl rfl ?_
  refine WC.seq fun K1333 hK1333 => ?_
  -- region 9
  refine WC.region ?_
  -- R9.0 31 := kernel.go:251 binOp
  refine WL.v (by first | exact r_eql rfl rfl (decide_eq_true (by omega)) | exact r_eql rfl rfl (decide_eq_false (by omega)) | exact r_eql rfl rfl rfl) rfl rfl rfl ?_
  -- R9.1 30 := kernel.go:251 assign
  refine WL.v (by first | exact r_assign (v := .bool _) rfl | exact r_assign rfl) rfl rfl rfl ?_
  refine WL.fin hK1333 (fun _ _ h => h) ?_
  refine WC.condF rfl rfl ?_
  refine WC.seq fun K1334 hK1334 => ?_
  -- region 11
  refine WC.region ?_
  -- R11.0 38 := kernel.go:253 binOp
  refine WL.v (by first | exact r_eql rfl rfl (decide_eq_true (by omega)) | exact r_eql rfl rfl (decide_eq_false (by omega)) | exact r_eql rfl rfl rfl) rfl rfl rfl ?_
  -- R11.1 37 := kernel.go:253 assign
  refine WL.v (by first | exact r_assign (v := .bool _) rfl | exact r_assign rfl) rfl rfl rfl ?_
  refine WL.fin hK1334 (fun _ _ h => h) ?_
  refine WC.condF rfl rfl ?_
  refine WC.seq fun K1335 hK1335 => ?_
  -- region 13
  refine WC.region ?_
  -- R13.0 45 := kernel.go:255 binOp
  refine WL.v (by first | exact r_eql rfl rfl (decide_eq_true (by omega)) | exact r_eql rfl rfl (decide_eq_false (by omega)) | exact r_eql rfl rfl rfl) rfl rfl rfl ?_
  -- R13.1 44 := kernel.go:255 assign
  refine WL.v (by first | exact r_assign (v := .bool _) rfl | exact r_assign rfl) rfl rfl rfl ?_
  refine WL.fin hK1335 (fun _ _ h => h) ?_
  refine WC.condF rfl rfl ?_
  refine WC.seq fun K1336 hK1336 => ?_
  -- region 15
  refine WC.region ?_
  -- R15.0 52 := kernel.go:257 binOp
  refine WL.v (by first | exact r_eql rfl rfl (decide_eq_true (by omega)) | exact r_eql rfl rfl (decide_eq_false (by omega)) | exact r_eql rfl rfl rfl) rfl rfl rfl ?_
  -- R15.1 51 := kernel.go:257 assign
  refine WL.v (by first | exact r_assign (v := .bool _) rfl | exact r_assign rfl) rfl rfl rfl ?_
  refine WL.fin hK1336 (fun _ _ h => h) ?_
  refine WC.condF rfl rfl ?_
  refine WC.seq fun K1337 hK1337 => ?_
  -- region 17
  refine WC.region ?_
  -- R17.0 61 := kernel.go:259 binOp
  refine WL.v (by first | exact r_eql rfl rfl (decide_eq_true (by omega)) | exact r_eql rfl rfl (decide_eq_false (by omega)) | exact r_eql rfl rfl rfl) rfl rfl rfl ?_
  -- R17.1 60 := kernel.go:259 assign
  refine WL.v (by first | exact r_assign (v := .bool _) rfl | exact r_assign rfl) rfl rfl rfl ?_
  refine WL.fin hK1337 (fun _ _ h => h) ?_
  refine WC.condF rfl rfl ?_
  refine WC.seq fun K1338 hK1338 => ?_
  -- region 19
  refine WC.region ?_
  -- R19.0 67 := kernel.go:261 binOp
  refine WL.v (by first | exact r_eql rfl rfl (decide_eq_true (by omega)) | exact r_eql rfl rfl (decide_eq_false (by omega)) | exact r_eql rfl rfl rfl) rfl rfl rfl ?_
  -- R19.1 66 := kernel.go:261 assign
  refine WL.v (by first | exact r_assign (v := .bool _) rfl | exact r_assign rfl) rfl rfl rfl ?_
  refine WL.fin hK1338 (fun _ _ h => h) ?_
  refine WC.condF rfl rfl ?_
  refine WC.seq fun K1339 hK1339 => ?_
  -- region 21
  refine WC.region ?_
  -- R21.0 77 := kernel.go:263 binOp
  refine WL.v (by first | exact r_eql rfl rfl (decide_eq_true (by omega)) | exact r_eql rfl rfl (decide_eq_false (by omega)) | exact r_eql rfl rfl rfl) rfl rfl rfl ?_
  -- R21.1 76 := kernel.go:263 assign
  refine WL.v (by first | exact r_assign (v := .bool _) rfl | exact r_assign rfl) rfl rfl rfl ?_
  refine WL.fin hK1339 (fun _ _ h => h) ?_
  refine WC.condF rfl rfl ?_
  refine WC.seq fun K1340 hK1340 => ?_
  -- region 23
  refine WC.region ?_
  -- R23.0 82 := kernel.go:265 binOp
  refine WL.v (by first | exact r_eql rfl rfl (decide_eq_true (by omega)) | exact r_eql rfl rfl (decide_eq_false (by omega)) | exact r_eql rfl rfl rfl) rfl rfl rfl ?_
  -- R23.1 81 := kernel.go:265 assign
  refine WL.v (by first | exact r_assign (v := .bool _) rfl | exact r_assign rfl) rfl rfl rfl ?_
  refine WL.fin hK1340 (fun _ _ h => h) ?_
  refine WC.condF rfl rfl ?_
  refine WC.seq fun K1341 hK1341 => ?_
  -- region 25
  refine WC.region ?_
  -- R25.0 87 := kernel.go:267 binOp
  refine WL.v (by first | exact r_eql rfl rfl (decide_eq_true (by omega)) | exact r_eql rfl rfl (decide_eq_false (by omega)) | exact r_eql rfl rfl rfl) rfl rfl rfl ?_
  -- R25.1 86 := kernel.go:267 assign
  refine WL.v (by first | exact r_assign (v := .bool _) rfl | exact r_assign rfl) rfl rfl rfl ?_
  refine WL.fin hK1341 (fun _ _ h => h) ?_
  refine WC.condF rfl rfl ?_
  refine WC.seq fun K1342 hK1342 => ?_
  -- region 27
  refine WC.region ?_
  -- R27.0 91 := kernel.go:269 binOp
  refine WL.v (by first | exact r_eql rfl rfl (decide_eq_true (by omega)) | exact r_eql rfl rfl (decide_eq_false (by omega)) | exact r_eql rfl rfl rfl) rfl rfl rfl ?_
  -- R27.1 90 := kernel.go:269 assign
  refine WL.v (by first | exact r_assign (v := .bool _) rfl | exact r_assign rfl) rfl rfl rfl ?_
  refine WL.fin hK1342 (fun _ _ h => h) ?_
  refine WC.condF rfl rfl ?_
  refine WC.skipF hK1329 (fun _ _ h => h) ?_
  refine WC.seq fun K1343 hK1343 => ?_
  -- region 29
  refine WC.region ?_
  -- R29.0 94 := kernel.go:272 move
  refine WL.v (by first | exact r_move (v := .pointer _) rfl | exact r_move rfl) rfl rfl rfl ?_
  -- R29.1 95 := kernel.go:272 call
  have st : KH w0 B s (zR b4 :: oI b3 ⟨k, A, Bb, C, x⟩ :: l) w := V.back (I := [_, _]) st
  refine WL.call (r_call ty_call88 rfl) rfl rfl rfl (done_ok st) ?_
  rintro _ w ⟨ovr, XO, hor, rfl, st⟩
  obtain ⟨ar, cr, br, rfl, -, -, -, -⟩ := hor.form
  obtain ⟨Yr, st, backr⟩ := KH.out (st.perm (List.perm_append_comm_assoc XO [_] (oI b3 ⟨k, A, Bb, C, x⟩ :: l)))
  -- R29.2 None := kernel.go:272 store
  first | refine WL.storeW (vs := [_, _, _]) st ty_agg34 rfl rfl rfl rfl rfl rfl ?_ | refine WL.storeL (vs := [_, _, _]) st ty_agg34 rfl rfl rfl rfl (by first | decide | omega) rfl rfl ?_ | refine WL.storeW (vs := [_, _, _]) st.front1 ty_agg34 rfl rfl rfl rfl rfl rfl ?_ | refine WL.storeL (vs := [_, _, _]) st.front1 ty_agg34 rfl rfl rfl rfl (by first | decide | omega) rfl rfl ?_ | refine WL.storeW (vs := [_, _, _]) st.front2 ty_agg34 rfl rfl rfl rfl rfl rfl ?_ | refine WL.storeL (vs := [_, _, _]) st.front2 ty_agg34 rfl rfl rfl rfl (by first | decide | omega) rfl rfl ?_ | refine WL.storeW (vs := [_, _, _]) st.front3 ty_agg34 rfl rfl rfl rfl rfl rfl ?_ | refine WL.storeL (vs := [_, _, _]) st.front3 ty_agg34 rfl rfl rfl rfl (by first | decide | omega) rfl rfl ?_ | refine WL.storeW (vs := [_, _, _]) st.front4 ty_agg34 rfl rfl rfl rfl rfl rfl ?_ | refine WL.storeL (vs := [_, _, _]) st.front4 ty_agg34 rfl rfl rfl rfl (by first | decide | omega) rfl rfl ?_ | refine WL.storeW (vs := [_, _, _]) st.front5 ty_agg34 rfl rfl rfl rfl rfl rfl ?_ | refine WL.storeL (vs := [_, _, _]) st.front5 ty_agg34 rfl rfl rfl rfl (by first | decide | omega) rfl rfl ?_ | refine WL.storeW (vs := [_, _, _]) st.front6 ty_agg34 rfl rfl rfl rfl rfl rfl ?_ | refine WL.storeL (vs := [_, _, _]) st.front6 ty_agg34 rfl rfl rfl rfl (by first | decide | omega) rfl rfl ?_ | refine WL.storeW (vs := [_, _, _]) st.front7 ty_agg34 rfl rfl rfl rfl rfl rfl ?_ | refine WL.storeL (vs := [_, _, _]) st.front7 ty_agg34 rfl rfl rfl rfl (by first | decide | omega) rfl rfl ?_ | refine WL.storeW (vs := [_, _, _]) st.front8 ty_agg34 rfl rfl rfl rfl rfl rfl ?_ | refine WL.storeL (vs := [_, _, _]) st.front8 ty_agg34 rfl rfl rfl rfl (by first | decide | omega) rfl rfl ?_
  intro w st
  refine WL.fin hK1343 (fun _ _ h => h) ?_
  refine WC.retC (vs := [_, _, _]) Tryz.results52 (fun _ _ h => h) rfl ty_agg34 rfl ⟨(by first | assumption | exact st.c0 (by first | decide | omega) | exact st.c1 (by first | decide | omega) | exact st.c2 (by first | decide | omega) | exact st.c3 (by first | decide | omega) | exact st.c4 (by first | decide | omega) | exact st.c5 (by first | decide | omega) | exact st.c6 (by first | decide | omega) | exact st.c7 (by first | decide | omega) | exact st.c8 (by first | decide | omega)), (by first | assumption | exact st.c0 (by first | decide | omega) | exact st.c1 (by first | decide | omega) | exact st.c2 (by first | decide | omega) | exact st.c3 (by first | decide | omega) | exact st.c4 (by first | decide | omega) | exact st.c5 (by first | decide | omega) | exact st.c6 (by first | decide | omega) | exact st.c7 (by first | decide | omega) | exact st.c8 (by first | decide | omega)), (by first | assumption | exact st.c0 (by first | decide | omega) | exact st.c1 (by first | decide | omega) | exact st.c2 (by first | decide | omega) | exact st.c3 (by first | decide | omega) | exact st.c4 (by first | decide | omega) | exact st.c5 (by first | decide | omega) | exact st.c6 (by first | decide | omega) | exact st.c7 (by first | decide | omega) | exact st.c8 (by first | decide | omega)), trivial⟩ ?_
  rw [e]
  exact ⟨_, rfl, _, XO, hor, rfl, (backr st).drop.sub ((List.sublist_cons_self _ _).append_left _)⟩
end Go.Proofs.Qxb6500834aGreatDoor

