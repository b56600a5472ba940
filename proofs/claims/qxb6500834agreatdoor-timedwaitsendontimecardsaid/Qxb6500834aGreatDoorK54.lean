import Derived.Test.Qxb6500834aGreatDoorK51
import Derived.Test.Qxb6500834aGreatDoorE34
set_option linter.unusedVariables false
set_option linter.unusedSimpArgs false
set_option maxRecDepth 20000
namespace Go.Proofs.Qxb6500834aGreatDoor
open Go.RowKit Go.E1 Go.Kern
theorem ty_agg36 : aggT Tryz.prog 36 = some 10 := by kernel_rfl
theorem ty_call29 : callT Tryz.prog 29 = true := by kernel_rfl
theorem ty_call62 : callT Tryz.prog 62 = true := by kernel_rfl
theorem ty_fld42_4 : fldOff Tryz.prog 42 4 = some 4 := by kernel_rfl
variable {w0 : World} {l X : List HI} {w : World} {s s' s0 : KS} {t r N n : Nat} {qv qv' : Nat → Value}

/-! Law: timed waits end on time. -/
theorem ts_one {T : TK} : ∀ k, k < 6 → (tsF T k).oneCell' = true := fun k hk => by
  match k with
  | 0 | 1 | 2 | 3 | 4 | 5 => rfl
  | k + 6 => omega
set_option maxHeartbeats 4000000 in
theorem timed1_ok {o : Kern.Op} {bB bA : Nat} {code task : Int} {ov : Value} {ans : List (Nat × Nat × Nat)}  (hD : gD w0) (h16 : ∀ a, a ∈ ans → a.1 < 16) (hto : ∀ a, a ∈ ans → a.2.2 = 4 → o.kind = 10 ∧ (s.tk a.1).deadline = s'.now) (hw : ∀ t, t < 16 → (s'.tk t).waiting = true → (s'.tk t).deadline ≠ 0 → s'.now < (s'.tk t).deadline) (hz : ∀ t, t < 16 → (s'.tk t).waiting = false → (s'.tk t).deadline = 0) (hck : CK s s' ans bB bA qv qv' ov l) (st : S0 w0 l w) :
    Calls Tryz.prog 62 #[.agg (stepL o bB bA code task ov).toArray] w (Ret fun v w' => v = .bool true ∧ S0 w0 l w') := by
  obtain ⟨XO, ho, hXO⟩ := hck.a
  obtain ⟨a, c, b, rfl, hc1, hc2, ha, hcell⟩ := ho.form
  obtain ⟨fs, hfs⟩ : ∃ fs : Nat → Value, fs = nth (stepL o bB bA code task (.slice a ans.length c)) := ⟨_, rfl⟩
  have f0 : fs 0 = .int .u8 (o.kind : Nat) := by rw [hfs]; rfl
  have f1 : fs 1 = .int .i64 o.A := by rw [hfs]; rfl
  have f2 : fs 2 = .int .i64 o.B := by rw [hfs]; rfl
  have f3 : fs 3 = .int .i64 o.C := by rw [hfs]; rfl
  have f4 : fs 4 = .int .u64 (o.X : Nat) := by rw [hfs]; rfl
  have f5 : fs 5 = .pointer (some ⟨bB, 0, none⟩) := by rw [hfs]; rfl
  have f6 : fs 6 = .pointer (some ⟨bA, 0, none⟩) := by rw [hfs]; rfl
  have f7 : fs 7 = .int .i64 code := by rw [hfs]; rfl
  have f8 : fs 8 = .int .i64 task := by rw [hfs]; rfl
  have f9 : fs 9 = .slice a ans.length c := by rw [hfs]; rfl
  refine enter [.agg (stepL o bB bA code task (.slice a ans.length c)).toArray] Tryz.func62 rfl Tryz.ntmps62 rfl ?_
  show WC _ _ _ 78 [] [(0, .agg (stepL o bB bA code task (.slice a ans.length c)).toArray)] _
  refine WC.seq fun K1863 hK1863 => ?_
  -- region 0
  refine WC.region ?_
  -- R0.0 1 := law.go:483 box
  refine WL.box (m := 10) (vs := stepL o bB bA code task (.slice a ans.length c)) st rfl rfl rfl rfl rfl rfl ?_
  intro b1 w st
  have st : S0 w0 ((b1, Row 36 10 fs) :: l) w := by rw [hfs]; exact st
  -- R0.1 2 := law.go:483 assign
  refine WL.v (by first | exact r_assign (v := .bool _) rfl | exact r_assign rfl) rfl rfl rfl ?_
  refine WL.fin hK1863 (fun _ _ h => h) ?_
  refine WC.seq fun K1864 hK1864 => ?_
  refine WC.seq fun K1865 hK1865 => ?_
  -- region 1
  refine WC.region ?_
  -- R1.0 7 := law.go:484 load
  refine WL.v (by exact r_loadL (vs := stepL o bB bA code task (.slice a ans.length c)) ty_agg36 rfl ⟨(st.c0 (by decide)).trans (congrArg some f0), (st.c0 (by decide)).trans (congrArg some f1), (st.c0 (by decide)).trans (congrArg some f2), (st.c0 (by decide)).trans (congrArg some f3), (st.c0 (by decide)).trans (congrArg some f4), (st.c0 (by decide)).trans (congrArg some f5), (st.c0 (by decide)).trans (congrArg some f6), (st.c0 (by decide)).trans (congrArg some f7), (st.c0 (by decide)).trans (congrArg some f8), (st.c0 (by decide)).trans (congrArg some f9), trivial⟩) rfl rfl rfl ?_
  -- R1.1 8 := law.go:484 call
  refine WL.call (r_call ty_call29 rfl) rfl rfl rfl (told_ok (o := o) (cd := 4) (hck.c) h16 st) ?_
  rintro _ w ⟨rfl, st⟩
  -- R1.2 9 := law.go:484 call
  refine WL.call (r_call ty_call31 rfl) rfl rfl rfl (tasks_ok hD (toldL_lt ans (by decide) h16) st) ?_
  rintro _ w ⟨XT, hXT, st⟩
  obtain ⟨Ts, hTs⟩ : ∃ Ts, Ts = tasksP (toldP ans 4) := ⟨_, rfl⟩
  have hT16 : ∀ o, o ∈ Ts → o < 16 := fun o h => by rw [hTs] at h; exact tasksP_lt h
  have hTl : Ts.length ≤ 16 := by rw [hTs]; exact tasksP_len
  rw [← hTs] at hXT
  obtain ⟨at', ct, bt, rfl, hct1, hct2, hat', htcell⟩ := hXT.form
  -- R1.3 10 := law.go:484 call
  refine WL.v (by exact r_len ty_usl54 rfl) rfl rfl rfl ?_
  -- R1.4 11 := law.go:484 move
  refine WL.v (by first | exact r_move (v := .int _ _) rfl | exact r_move rfl) rfl rfl rfl ?_
  refine WL.fin hK1865 (fun _ _ h => h) ?_
  refine WC.block ?_
  refine WC.loop (ι := Nat) (fun k => [(1, .pointer (some ⟨b1, 0, none⟩)), (9, .slice at' Ts.length ct), (10, .int .i64 (Ts.length : Nat)), (11, .int .i64 (k : Nat))])
    (fun k w' => k ≤ Ts.length ∧ S0 w0 (XT ++ ((b1, Row 36 10 fs) :: l)) w') (fun k => Ts.length - k) 0 ⟨Nat.zero_le _, st⟩ ?_ ?_
  · skip
    repeat (first | exact sub_nil _ | refine sub_cons rfl rfl ?_)
  clear st
  rintro k w ⟨hk, st⟩ K2 hK2
  have hsub : ∀ x, x ∈ (b1, Row 36 10 fs) :: l → x ∈ XT ++ ((b1, Row 36 10 fs) :: l) := fun x hx => List.mem_append_right _ hx
  by_cases hkl : k = Ts.length
  rotate_left
  · have hkl' : k < Ts.length := by omega
    obtain ⟨v, hv⟩ : ∃ v, Ts[k]? = some v := ⟨Ts[k], List.getElem?_eq_getElem hkl'⟩
    have hm := List.mem_of_getElem? hv
    have hv16 := hT16 v hm
    have hb4 : ∃ a, a ∈ ans ∧ (a.2.2 : Int) = 4 ∧ a.1 = v := by rw [hTs] at hm; exact toldP_bit.1 (tasksP_mem.1 hm).2
    obtain ⟨x, hx1, hx2, hx3⟩ := hb4
    obtain ⟨hk10, hdl⟩ := hto x hx1 (by omega)
    rw [hx3] at hdl
    obtain rfl := hat' (by omega)
    have hce := htcell st (fun x hx => List.mem_append_left _ hx) k v hv 0 (by decide)
    refine WC.seq fun K1866 hK1866 => ?_
    -- region 2
    refine WC.region ?_
    -- R2.0 12 := law.go:484 binOp
    refine WL.v (by first | exact r_lss rfl rfl (decide_eq_true (by omega)) | exact r_lss rfl rfl (decide_eq_false (by omega)) | exact r_lss rfl rfl rfl) rfl rfl rfl ?_
    refine WL.fin hK1866 (fun _ _ h => h) ?_
    refine WC.seq fun K1867 hK1867 => ?_
    refine WC.condT rfl rfl ?_
    refine WC.skipF hK1867 (fun _ _ h => h) ?_
    refine WC.seq fun K1868 hK1868 => ?_
    refine WC.block ?_
    refine WC.seq fun K1869 hK1869 => ?_
    -- region 3
    refine WC.region ?_
    -- R3.0 13 := law.go:484 indexAddr
    refine WL.v (by exact r_indexS (j := k) ty_sl54 rfl rfl rfl (by omega)) rfl rfl rfl ?_
    -- R3.1 14 := law.go:484 load
    refine WL.v (by exact r_load1 (v := .int .i64 (v : Nat)) ty_one31 rfl (by rw [Nat.zero_add]; exact hce)) rfl rfl rfl ?_
    -- R3.2 4 := law.go:484 assign
    refine WL.v (by first | exact r_assign (v := .int _ _) rfl | exact r_assign rfl) rfl rfl rfl ?_
    refine WL.fin hK1869 (fun _ _ h => h) ?_
    refine WC.seq fun K1870 hK1870 => ?_
    -- region 4 (draws)
    refine WC.quietS st ty_mixed (by kernel_rfl) fun Kq hKq => ?_
    -- R4.0 15 := law.go:485 fieldAddr
    refine QL.v (fun w st => by exact r_field ty_fld36_0 rfl) rfl rfl rfl ?_
    -- R4.1 16 := law.go:485 fieldAddr
    refine QL.v (fun w st => by exact r_field ty_fld28_0 rfl) rfl rfl rfl ?_
    -- R4.2 17 := law.go:485 load
    refine QL.v (fun w st => by exact r_load1 (v := .int .u8 (o.kind : Nat)) ty_one25 rfl (by rw [← f0]; exact st.cell (hsub _ List.mem_cons_self) (by decide))) rfl rfl rfl ?_
    -- R4.3 18 := law.go:485 binOp
    refine QL.v (fun w st => by first | exact r_neq rfl rfl (decide_eq_true (by omega)) | exact r_neq rfl rfl (decide_eq_false (by omega)) | exact r_neq rfl rfl rfl) rfl rfl rfl ?_
    -- R4.4 19 := law.go:485 move
    refine QL.v (fun w st => by first | exact r_move (v := .bool _) rfl | exact r_move rfl) rfl rfl rfl ?_
    -- R4.5 20 := law.go:485 fieldAddr
    refine QL.v (fun w st => by exact r_field ty_fld36_1 rfl) rfl rfl rfl ?_
    -- R4.6 21 := law.go:485 load
    refine QL.v (fun w st => by exact r_load1 (v := .pointer (some ⟨bB, 0, none⟩)) ty_one29 rfl (by rw [← f5]; exact st.cell (hsub _ List.mem_cons_self) (by decide))) rfl rfl rfl ?_
    -- R4.7 22 := law.go:485 move
    refine QL.v (fun w st => by first | exact r_move (v := .int _ _) rfl | exact r_move rfl) rfl rfl rfl ?_
    -- R4.8 23 := law.go:485 nilCheck
    refine QL.v (fun w st => by exact r_nilCheck rfl) rfl rfl rfl ?_
    -- R4.9 24 := law.go:485 fieldAddr
    refine QL.v (fun w st => by exact r_field ty_fld50_3 rfl) rfl rfl rfl ?_
    -- R4.10 25 := law.go:485 indexAddr
    refine QL.v (fun w st => by exact r_indexA (j := v) ty_ar43 rfl rfl rfl hv16) rfl rfl rfl ?_
    -- R4.11 26 := law.go:485 fieldAddr
    refine QL.v (fun w st => by exact r_field ty_fld42_4 rfl) rfl rfl rfl ?_
    -- R4.12 27 := law.go:485 load
    refine QL.v (fun w st => by exact r_load1 (v := .int .u64 ((s.tk v).deadline : Nat)) ty_one26 rfl (c_sT (hsub _ (List.mem_cons_of_mem _ hck.B)) hv16 (j := 4) (by decide) (by omega) st)) rfl rfl rfl ?_
    -- R4.13 28 := law.go:485 fieldAddr
    refine QL.v (fun w st => by exact r_field ty_fld36_2 rfl) rfl rfl rfl ?_
    -- R4.14 29 := law.go:485 load
    refine QL.v (fun w st => by exact r_load1 (v := .pointer (some ⟨bA, 0, none⟩)) ty_one29 rfl (by rw [← f6]; exact st.cell (hsub _ List.mem_cons_self) (by decide))) rfl rfl rfl ?_
    -- R4.15 30 := law.go:485 nilCheck
    refine QL.v (fun w st => by exact r_nilCheck rfl) rfl rfl rfl ?_
    -- R4.16 31 := law.go:485 fieldAddr
    refine QL.v (fun w st => by exact r_field ty_fld50_1 rfl) rfl rfl rfl ?_
    -- R4.17 32 := law.go:485 load
    refine QL.v (fun w st => by exact r_load1 (v := .int .u64 (s'.now : Nat)) ty_one26 rfl (c_s (hsub _ (List.mem_cons_of_mem _ hck.A)) (by decide) rfl st)) rfl rfl rfl ?_
    -- R4.18 33 := law.go:485 binOp
    refine QL.v (fun w st => by first | exact r_neq rfl rfl (decide_eq_true (by omega)) | exact r_neq rfl rfl (decide_eq_false (by omega)) | exact r_neq rfl rfl rfl) rfl rfl rfl ?_
    -- R4.19 34 := law.go:485 pick
    refine QL.v (fun w st => by first | exact r_pickT (v := .bool _) rfl rfl | exact r_pickF (v := .bool _) rfl rfl) rfl rfl rfl ?_
    refine QL.wl hKq fun w st => ?_
    refine WL.fin hK1870 (fun _ _ h => h) ?_
    refine WC.condF rfl rfl ?_
    refine WC.skipF hK1868 (fun _ _ h => h) ?_
    -- region 6
    refine WC.region ?_
    -- R6.0 35 := law.go:484 binOp
    refine WL.v (by first | exact r_add rfl rfl (wi64 (by omega) (by omega)) | exact r_add rfl rfl rfl) rfl rfl rfl ?_
    -- R6.1 11 := law.go:484 move
    refine WL.v (by first | exact r_move (v := .int _ _) rfl | exact r_move rfl) rfl rfl rfl ?_
    refine WL.next hK2 (fun _ _ h => h) (k + 1) ⟨hkl', st⟩ (by omega) (by repeat (first | exact sub_nil _ | refine sub_cons rfl rfl ?_))
  have st := st_dropL st
  refine WC.seq fun K1871 hK1871 => ?_
  -- region 2
  refine WC.region ?_
  -- R2.0 12 := law.go:484 binOp
  refine WL.v (by first | exact r_lss rfl rfl (decide_eq_true (by omega)) | exact r_lss rfl rfl (decide_eq_false (by omega)) | exact r_lss rfl rfl rfl) rfl rfl rfl ?_
  refine WL.fin hK1871 (fun _ _ h => h) ?_
  refine WC.seq fun K1872 hK1872 => ?_
  refine WC.condF rfl rfl ?_
  refine WC.exitF hK1864 (fun _ _ h => h) ?_
  refine WC.seq fun K1873 hK1873 => ?_
  refine WC.seq fun K1874 hK1874 => ?_
  -- region 7
  refine WC.region ?_
  -- R7.0 36 := law.go:489 fieldAddr
  refine WL.v (by exact r_field ty_fld36_2 rfl) rfl rfl rfl ?_
  -- R7.1 37 := law.go:489 load
  refine WL.v (by exact r_load1 (v := .pointer (some ⟨bA, 0, none⟩)) ty_one29 rfl (by rw [← f6]; exact st.c0 (by decide))) rfl rfl rfl ?_
  -- R7.2 38 := law.go:489 nilCheck
  refine WL.v (by exact r_nilCheck rfl) rfl rfl rfl ?_
  -- R7.3 39 := law.go:489 fieldAddr
  refine WL.v (by exact r_field ty_fld50_3 rfl) rfl rfl rfl ?_
  -- R7.4 40 := law.go:489 load
  refine WL.v (by exact r_loadN (f := taF s'.tk) ty_agg43 rfl (fun k hk => c_s (List.mem_cons_of_mem _ hck.A) (by omega) (by rw [show 0 + 3 + k = 3 + k by omega]; exact sF_t hk) st)) rfl rfl rfl ?_
  -- R7.5 41 := law.go:489 move
  refine WL.v (by first | exact r_move (v := .int _ _) rfl | exact r_move rfl) rfl rfl rfl ?_
  refine WL.fin hK1874 (fun _ _ h => h) ?_
  refine WC.block ?_
  refine WC.loop (ι := Nat) (fun i => [(1, .pointer (some ⟨b1, 0, none⟩)), (40, .agg (mkA 96 (taF s'.tk))), (41, .int .i64 (i : Nat))])
    (fun i w' => i ≤ 16 ∧ S0 w0 ((b1, Row 36 10 fs) :: l) w') (fun i => 16 - i) 0 ⟨Nat.zero_le _, st⟩ ?_ ?_
  · skip
    repeat (first | exact sub_nil _ | refine sub_cons rfl rfl ?_)
  clear st
  rintro i w ⟨hi, st⟩ K3 hK3
  by_cases h16' : i = 16
  · skip
    refine WC.seq fun K1875 hK1875 => ?_
    -- region 8
    refine WC.region ?_
    -- R8.0 42 := law.go:489 binOp
    refine WL.v (by first | exact r_lss rfl rfl (decide_eq_true (by omega)) | exact r_lss rfl rfl (decide_eq_false (by omega)) | exact r_lss rfl rfl rfl) rfl rfl rfl ?_
    refine WL.fin hK1875 (fun _ _ h => h) ?_
    refine WC.seq fun K1876 hK1876 => ?_
    refine WC.condF rfl rfl ?_
    refine WC.exitF hK1873 (fun _ _ h => h) ?_
    refine WC.seq fun K1877 hK1877 => ?_
    -- region 15
    refine WC.region ?_
    -- R15.0 2 := law.go:497 assign
    refine WL.v (by first | exact r_assign (v := .bool _) rfl | exact r_assign rfl) rfl rfl rfl ?_
    refine WL.fin hK1877 (fun _ _ h => h) ?_
    refine WC.ret1 Tryz.results62 (fun _ _ h => h) rfl ?_
    exact ⟨_, rfl, rfl, st.drop⟩
  have hi' : i < 16 := by omega
  have hck2 := (hck.c (a := (b1, Row 36 10 fs)))
  rcases hwt : (s'.tk i).waiting with _ | _
  · have hdz := hz i hi' hwt
    refine WC.seq fun K1878 hK1878 => ?_
    -- region 8
    refine WC.region ?_
    -- R8.0 42 := law.go:489 binOp
    refine WL.v (by first | exact r_lss rfl rfl (decide_eq_true (by omega)) | exact r_lss rfl rfl (decide_eq_false (by omega)) | exact r_lss rfl rfl rfl) rfl rfl rfl ?_
    refine WL.fin hK1878 (fun _ _ h => h) ?_
    refine WC.seq fun K1879 hK1879 => ?_
    refine WC.condT rfl rfl ?_
    refine WC.skipF hK1879 (fun _ _ h => h) ?_
    refine WC.seq fun K1880 hK1880 => ?_
    refine WC.block ?_
    refine WC.seq fun K1881 hK1881 => ?_
    -- region 9
    refine WC.region ?_
    -- R9.0 43 := law.go:489 index
    refine WL.v (by exact r_indexW (a := i) (m := 96) (s := 6) (F := taF s'.tk) (G := tsF (s'.tk i)) ty_ar43 ty_agg42 rfl rfl hi' (by omega) (fun j hj => by unfold taF; rw [show (i * 6 + j) / 6 = i by omega, show (i * 6 + j) % 6 = j by omega])) rfl rfl rfl ?_
    -- R9.1 6 := law.go:489 alloc
    refine WL.alloc (m := 6) st ty_zero42 rfl rfl rfl ?_
    intro b6 w st
    -- R9.2 None := law.go:489 store
    refine WL.storeN (st) ty_agg42 rfl rfl (fun k hk => ts_one k hk) (by omega) rfl rfl ?_
    intro w st
    refine WL.fin hK1881 (fun _ _ h => h) ?_
    refine WC.seq fun K1882 hK1882 => ?_
    refine WC.seq fun K1883 hK1883 => ?_
    -- region 10 (draws)
    refine WC.quietS st ty_mixed (by kernel_rfl) fun Kq hKq => ?_
    -- R10.0 44 := law.go:490 fieldAddr
    refine QL.v (fun w st => by exact r_field ty_fld42_3 rfl) rfl rfl rfl ?_
    -- R10.1 45 := law.go:490 load
    refine QL.v (fun w st => by exact r_load1 (v := .bool false) ty_one4 rfl (by rw [← hwt, st.c0 (by decide), upds_eq]; rfl)) rfl rfl rfl ?_
    -- R10.2 46 := law.go:490 move
    refine QL.v (fun w st => by first | exact r_move (v := .bool _) rfl | exact r_move rfl) rfl rfl rfl ?_
    -- R10.3 47 := law.go:490 fieldAddr
    refine QL.no rfl rfl ?_
    -- R10.4 48 := law.go:490 load
    refine QL.no rfl rfl ?_
    -- R10.5 49 := law.go:490 binOp
    refine QL.no rfl rfl ?_
    -- R10.6 50 := law.go:490 pick
    refine QL.v (fun w st => by first | exact r_pickT (v := .bool _) rfl rfl | exact r_pickF (v := .bool _) rfl rfl) rfl rfl rfl ?_
    -- R10.7 51 := law.go:490 move
    refine QL.v (fun w st => by first | exact r_move (v := .bool _) rfl | exact r_move rfl) rfl rfl rfl ?_
    -- R10.8 52 := law.go:490 fieldAddr
    refine QL.no rfl rfl ?_
    -- R10.9 53 := law.go:490 load
    refine QL.no rfl rfl ?_
    -- R10.10 54 := law.go:490 fieldAddr
    refine QL.no rfl rfl ?_
    -- R10.11 55 := law.go:490 load
    refine QL.no rfl rfl ?_
    -- R10.12 56 := law.go:490 nilCheck
    refine QL.no rfl rfl ?_
    -- R10.13 57 := law.go:490 fieldAddr
    refine QL.no rfl rfl ?_
    -- R10.14 58 := law.go:490 load
    refine QL.no rfl rfl ?_
    -- R10.15 59 := law.go:490 binOp
    refine QL.no rfl rfl ?_
    -- R10.16 60 := law.go:490 pick
    refine QL.v (fun w st => by first | exact r_pickT (v := .bool _) rfl rfl | exact r_pickF (v := .bool _) rfl rfl) rfl rfl rfl ?_
    -- R10.17 61 := law.go:490 move
    refine QL.v (fun w st => by first | exact r_move (v := .bool _) rfl | exact r_move rfl) rfl rfl rfl ?_
    -- R10.18 62 := law.go:490 fieldAddr
    refine QL.no rfl rfl ?_
    -- R10.19 63 := law.go:490 load
    refine QL.no rfl rfl ?_
    -- R10.20 64 := law.go:490 nilCheck
    refine QL.no rfl rfl ?_
    -- R10.21 65 := law.go:490 fieldAddr
    refine QL.no rfl rfl ?_
    -- R10.22 66 := law.go:490 load
    refine QL.no rfl rfl ?_
    -- R10.23 67 := law.go:490 binOp
    refine QL.no rfl rfl ?_
    -- R10.24 68 := law.go:490 pick
    refine QL.v (fun w st => by first | exact r_pickT (v := .bool _) rfl rfl | exact r_pickF (v := .bool _) rfl rfl) rfl rfl rfl ?_
    refine QL.wl hKq fun w st => ?_
    refine WL.fin hK1883 (fun _ _ h => h) ?_
    refine WC.condF rfl rfl ?_
    refine WC.skipF hK1882 (fun _ _ h => h) ?_
    refine WC.seq fun K1884 hK1884 => ?_
    -- region 12
    refine WC.region ?_
    -- R12.0 69 := law.go:493 fieldAddr
    refine WL.v (by exact r_field ty_fld42_3 rfl) rfl rfl rfl ?_
    -- R12.1 70 := law.go:493 load
    refine WL.v (by exact r_load1 (v := .bool false) ty_one4 rfl (by rw [← hwt, st.c0 (by decide), upds_eq]; rfl)) rfl rfl rfl ?_
    -- R12.2 71 := law.go:493 unOp
    refine WL.v (by first | exact r_notT rfl | exact r_notF rfl | exact r_not rfl) rfl rfl rfl ?_
    -- R12.3 72 := law.go:493 move
    refine WL.v (by first | exact r_move (v := .bool _) rfl | exact r_move rfl) rfl rfl rfl ?_
    -- R12.4 73 := law.go:493 fieldAddr
    refine WL.v (by exact r_field ty_fld42_4 rfl) rfl rfl rfl ?_
    -- R12.5 74 := law.go:493 load
    refine WL.v (by exact r_load1 (v := .int .u64 ((s'.tk i).deadline : Nat)) ty_one26 rfl (by rw [st.c0 (by decide), upds_eq]; rfl)) rfl rfl rfl ?_
    -- R12.6 75 := law.go:493 binOp
    refine WL.v (by first | exact r_neq rfl rfl (decide_eq_true (by omega)) | exact r_neq rfl rfl (decide_eq_false (by omega)) | exact r_neq rfl rfl rfl) rfl rfl rfl ?_
    -- R12.7 76 := law.go:493 pick
    refine WL.v (by first | exact r_pickT (v := .bool _) rfl rfl | exact r_pickF (v := .bool _) rfl rfl) rfl rfl rfl ?_
    refine WL.fin hK1884 (fun _ _ h => h) ?_
    refine WC.condF rfl rfl ?_
    refine WC.skipF hK1880 (fun _ _ h => h) ?_
    -- region 14
    refine WC.region ?_
    -- R14.0 77 := law.go:489 binOp
    refine WL.v (by first | exact r_add rfl rfl (wi64 (by omega) (by omega)) | exact r_add rfl rfl rfl) rfl rfl rfl ?_
    -- R14.1 41 := law.go:489 move
    refine WL.v (by first | exact r_move (v := .int _ _) rfl | exact r_move rfl) rfl rfl rfl ?_
    refine WL.next hK3 (fun _ _ h => h) (i + 1) ⟨hi', st.drop⟩ (by omega) (by repeat (first | exact sub_nil _ | refine sub_cons rfl rfl ?_))
  · skip
    by_cases hd0 : (s'.tk i).deadline = 0
    · skip
      refine WC.seq fun K1885 hK1885 => ?_
      -- region 8
      refine WC.region ?_
      -- R8.0 42 := law.go:489 binOp
      refine WL.v (by first | exact r_lss rfl rfl (decide_eq_true (by omega)) | exact r_lss rfl rfl (decide_eq_false (by omega)) | exact r_lss rfl rfl rfl) rfl rfl rfl ?_
      refine WL.fin hK1885 (fun _ _ h => h) ?_
      refine WC.seq fun K1886 hK1886 => ?_
      refine WC.condT rfl rfl ?_
      refine WC.skipF hK1886 (fun _ _ h => h) ?_
      refine WC.seq fun K1887 hK1887 => ?_
      refine WC.block ?_
      refine WC.seq fun K1888 hK1888 => ?_
      -- region 9
      refine WC.region ?_
      -- R9.0 43 := law.go:489 index
      refine WL.v (by exact r_indexW (a := i) (m := 96) (s := 6) (F := taF s'.tk) (G := tsF (s'.tk i)) ty_ar43 ty_agg42 rfl rfl hi' (by omega) (fun j hj => by unfold taF; rw [show (i * 6 + j) / 6 = i by omega, show (i * 6 + j) % 6 = j by omega])) rfl rfl rfl ?_
      -- R9.1 6 := law.go:489 alloc
      refine WL.alloc (m := 6) st ty_zero42 rfl rfl rfl ?_
      intro b6 w st
      -- R9.2 None := law.go:489 store
      refine WL.storeN (st) ty_agg42 rfl rfl (fun k hk => ts_one k hk) (by omega) rfl rfl ?_
      intro w st
      refine WL.fin hK1888 (fun _ _ h => h) ?_
      refine WC.seq fun K1889 hK1889 => ?_
      refine WC.seq fun K1890 hK1890 => ?_
      -- region 10 (draws)
      refine WC.quietS st ty_mixed (by kernel_rfl) fun Kq hKq => ?_
      -- R10.0 44 := law.go:490 fieldAddr
      refine QL.v (fun w st => by exact r_field ty_fld42_3 rfl) rfl rfl rfl ?_
      -- R10.1 45 := law.go:490 load
      refine QL.v (fun w st => by exact r_load1 (v := .bool true) ty_one4 rfl (by rw [← hwt, st.c0 (by decide), upds_eq]; rfl)) rfl rfl rfl ?_
      -- R10.2 46 := law.go:490 move
      refine QL.v (fun w st => by first | exact r_move (v := .bool _) rfl | exact r_move rfl) rfl rfl rfl ?_
      -- R10.3 47 := law.go:490 fieldAddr
      refine QL.v (fun w st => by exact r_field ty_fld42_4 rfl) rfl rfl rfl ?_
      -- R10.4 48 := law.go:490 load
      refine QL.v (fun w st => by exact r_load1 (v := .int .u64 ((s'.tk i).deadline : Nat)) ty_one26 rfl (by rw [st.c0 (by decide), upds_eq]; rfl)) rfl rfl rfl ?_
      -- R10.5 49 := law.go:490 binOp
      refine QL.v (fun w st => by first | exact r_neq rfl rfl (decide_eq_true (by omega)) | exact r_neq rfl rfl (decide_eq_false (by omega)) | exact r_neq rfl rfl rfl) rfl rfl rfl ?_
      -- R10.6 50 := law.go:490 pick
      refine QL.v (fun w st => by first | exact r_pickT (v := .bool _) rfl rfl | exact r_pickF (v := .bool _) rfl rfl) rfl rfl rfl ?_
      -- R10.7 51 := law.go:490 move
      refine QL.v (fun w st => by first | exact r_move (v := .bool _) rfl | exact r_move rfl) rfl rfl rfl ?_
      -- R10.8 52 := law.go:490 fieldAddr
      refine QL.no rfl rfl ?_
      -- R10.9 53 := law.go:490 load
      refine QL.no rfl rfl ?_
      -- R10.10 54 := law.go:490 fieldAddr
      refine QL.no rfl rfl ?_
      -- R10.11 55 := law.go:490 load
      refine QL.no rfl rfl ?_
      -- R10.12 56 := law.go:490 nilCheck
      refine QL.no rfl rfl ?_
      -- R10.13 57 := law.go:490 fieldAddr
      refine QL.no rfl rfl ?_
      -- R10.14 58 := law.go:490 load
      refine QL.no rfl rfl ?_
      -- R10.15 59 := law.go:490 binOp
      refine QL.no rfl rfl ?_
      -- R10.16 60 := law.go:490 pick
      refine QL.v (fun w st => by first | exact r_pickT (v := .bool _) rfl rfl | exact r_pickF (v := .bool _) rfl rfl) rfl rfl rfl ?_
      -- R10.17 61 := law.go:490 move
      refine QL.v (fun w st => by first | exact r_move (v := .bool _) rfl | exact r_move rfl) rfl rfl rfl ?_
      -- R10.18 62 := law.go:490 fieldAddr
      refine QL.no rfl rfl ?_
      -- R10.19 63 := law.go:490 load
      refine QL.no rfl rfl ?_
      -- R10.20 64 := law.go:490 nilCheck
      refine QL.no rfl rfl ?_
      -- R10.21 65 := law.go:490 fieldAddr
      refine QL.no rfl rfl ?_
      -- R10.22 66 := law.go:490 load
      refine QL.no rfl rfl ?_
      -- R10.23 67 := law.go:490 binOp
      refine QL.no rfl rfl ?_
      -- R10.24 68 := law.go:490 pick
      refine QL.v (fun w st => by first | exact r_pickT (v := .bool _) rfl rfl | exact r_pickF (v := .bool _) rfl rfl) rfl rfl rfl ?_
      refine QL.wl hKq fun w st => ?_
      refine WL.fin hK1890 (fun _ _ h => h) ?_
      refine WC.condF rfl rfl ?_
      refine WC.skipF hK1889 (fun _ _ h => h) ?_
      refine WC.seq fun K1891 hK1891 => ?_
      -- region 12
      refine WC.region ?_
      -- R12.0 69 := law.go:493 fieldAddr
      refine WL.v (by exact r_field ty_fld42_3 rfl) rfl rfl rfl ?_
      -- R12.1 70 := law.go:493 load
      refine WL.v (by exact r_load1 (v := .bool true) ty_one4 rfl (by rw [← hwt, st.c0 (by decide), upds_eq]; rfl)) rfl rfl rfl ?_
      -- R12.2 71 := law.go:493 unOp
      refine WL.v (by first | exact r_notT rfl | exact r_notF rfl | exact r_not rfl) rfl rfl rfl ?_
      -- R12.3 72 := law.go:493 move
      refine WL.v (by first | exact r_move (v := .bool _) rfl | exact r_move rfl) rfl rfl rfl ?_
      -- R12.4 73 := law.go:493 fieldAddr
      refine WL.no rfl rfl ?_
      -- R12.5 74 := law.go:493 load
      refine WL.no rfl rfl ?_
      -- R12.6 75 := law.go:493 binOp
      refine WL.no rfl rfl ?_
      -- R12.7 76 := law.go:493 pick
      refine WL.v (by first | exact r_pickT (v := .bool _) rfl rfl | exact r_pickF (v := .bool _) rfl rfl) rfl rfl rfl ?_
      refine WL.fin hK1891 (fun _ _ h => h) ?_
      refine WC.condF rfl rfl ?_
      refine WC.skipF hK1887 (fun _ _ h => h) ?_
      -- region 14
      refine WC.region ?_
      -- R14.0 77 := law.go:489 binOp
      refine WL.v (by first | exact r_add rfl rfl (wi64 (by omega) (by omega)) | exact r_add rfl rfl rfl) rfl rfl rfl ?_
      -- R14.1 41 := law.go:489 move
      refine WL.v (by first | exact r_move (v := .int _ _) rfl | exact r_move rfl) rfl rfl rfl ?_
      refine WL.next hK3 (fun _ _ h => h) (i + 1) ⟨hi', st.drop⟩ (by omega) (by repeat (first | exact sub_nil _ | refine sub_cons rfl rfl ?_))
    · have hlt := hw i hi' hwt hd0
      refine WC.seq fun K1892 hK1892 => ?_
      -- region 8
      refine WC.region ?_
      -- R8.0 42 := law.go:489 binOp
      refine WL.v (by first | exact r_lss rfl rfl (decide_eq_true (by omega)) | exact r_lss rfl rfl (decide_eq_false (by omega)) | exact r_lss rfl rfl rfl) rfl rfl rfl ?_
      refine WL.fin hK1892 (fun _ _ h => h) ?_
      refine WC.seq fun K1893 hK1893 => ?_
      refine WC.condT rfl rfl ?_
      refine WC.skipF hK1893 (fun _ _ h => h) ?_
      refine WC.seq fun K1894 hK1894 => ?_
      refine WC.block ?_
      refine WC.seq fun K1895 hK1895 => ?_
      -- region 9
      refine WC.region ?_
      -- R9.0 43 := law.go:489 index
      refine WL.v (by exact r_indexW (a := i) (m := 96) (s := 6) (F := taF s'.tk) (G := tsF (s'.tk i)) ty_ar43 ty_agg42 rfl rfl hi' (by omega) (fun j hj => by unfold taF; rw [show (i * 6 + j) / 6 = i by omega, show (i * 6 + j) % 6 = j by omega])) rfl rfl rfl ?_
      -- R9.1 6 := law.go:489 alloc
      refine WL.alloc (m := 6) st ty_zero42 rfl rfl rfl ?_
      intro b6 w st
      -- R9.2 None := law.go:489 store
      refine WL.storeN (st) ty_agg42 rfl rfl (fun k hk => ts_one k hk) (by omega) rfl rfl ?_
      intro w st
      refine WL.fin hK1895 (fun _ _ h => h) ?_
      refine WC.seq fun K1896 hK1896 => ?_
      refine WC.seq fun K1897 hK1897 => ?_
      -- region 10 (draws)
      refine WC.quietS st ty_mixed (by kernel_rfl) fun Kq hKq => ?_
      -- R10.0 44 := law.go:490 fieldAddr
      refine QL.v (fun w st => by exact r_field ty_fld42_3 rfl) rfl rfl rfl ?_
      -- R10.1 45 := law.go:490 load
      refine QL.v (fun w st => by exact r_load1 (v := .bool true) ty_one4 rfl (by rw [← hwt, st.c0 (by decide), upds_eq]; rfl)) rfl rfl rfl ?_
      -- R10.2 46 := law.go:490 move
      refine QL.v (fun w st => by first | exact r_move (v := .bool _) rfl | exact r_move rfl) rfl rfl rfl ?_
      -- R10.3 47 := law.go:490 fieldAddr
      refine QL.v (fun w st => by exact r_field ty_fld42_4 rfl) rfl rfl rfl ?_
      -- R10.4 48 := law.go:490 load
      refine QL.v (fun w st => by exact r_load1 (v := .int .u64 ((s'.tk i).deadline : Nat)) ty_one26 rfl (by rw [st.c0 (by decide), upds_eq]; rfl)) rfl rfl rfl ?_
      -- R10.5 49 := law.go:490 binOp
      refine QL.v (fun w st => by first | exact r_neq rfl rfl (decide_eq_true (by omega)) | exact r_neq rfl rfl (decide_eq_false (by omega)) | exact r_neq rfl rfl rfl) rfl rfl rfl ?_
      -- R10.6 50 := law.go:490 pick
      refine QL.v (fun w st => by first | exact r_pickT (v := .bool _) rfl rfl | exact r_pickF (v := .bool _) rfl rfl) rfl rfl rfl ?_
      -- R10.7 51 := law.go:490 move
      refine QL.v (fun w st => by first | exact r_move (v := .bool _) rfl | exact r_move rfl) rfl rfl rfl ?_
      -- R10.8 52 := law.go:490 fieldAddr
      refine QL.v (fun w st => by exact r_field ty_fld42_4 rfl) rfl rfl rfl ?_
      -- R10.9 53 := law.go:490 load
      refine QL.v (fun w st => by exact r_load1 (v := .int .u64 ((s'.tk i).deadline : Nat)) ty_one26 rfl (by rw [st.c0 (by decide), upds_eq]; rfl)) rfl rfl rfl ?_
      -- R10.10 54 := law.go:490 fieldAddr
      refine QL.v (fun w st => by exact r_field ty_fld36_2 rfl) rfl rfl rfl ?_
      -- R10.11 55 := law.go:490 load
      refine QL.v (fun w st => by exact r_load1 (v := .pointer (some ⟨bA, 0, none⟩)) ty_one29 rfl (by rw [← f6]; exact st.c1 (by decide))) rfl rfl rfl ?_
      -- R10.12 56 := law.go:490 nilCheck
      refine QL.v (fun w st => by exact r_nilCheck rfl) rfl rfl rfl ?_
      -- R10.13 57 := law.go:490 fieldAddr
      refine QL.v (fun w st => by exact r_field ty_fld50_1 rfl) rfl rfl rfl ?_
      -- R10.14 58 := law.go:490 load
      refine QL.v (fun w st => by exact r_load1 (v := .int .u64 (s'.now : Nat)) ty_one26 rfl (c_s (List.mem_cons_of_mem _ hck2.A) (by decide) rfl st)) rfl rfl rfl ?_
      -- R10.15 59 := law.go:490 binOp
      refine QL.v (fun w st => by first | exact r_leq rfl rfl (decide_eq_true (by omega)) | exact r_leq rfl rfl (decide_eq_false (by omega)) | exact r_leq rfl rfl rfl) rfl rfl rfl ?_
      -- R10.16 60 := law.go:490 pick
      refine QL.v (fun w st => by first | exact r_pickT (v := .bool _) rfl rfl | exact r_pickF (v := .bool _) rfl rfl) rfl rfl rfl ?_
      -- R10.17 61 := law.go:490 move
      refine QL.v (fun w st => by first | exact r_move (v := .bool _) rfl | exact r_move rfl) rfl rfl rfl ?_
      -- R10.18 62 := law.go:490 fieldAddr
      refine QL.no rfl rfl ?_
      -- R10.19 63 := law.go:490 load
      refine QL.no rfl rfl ?_
      -- R10.20 64 := law.go:490 nilCheck
      refine QL.no rfl rfl ?_
      -- R10.21 65 := law.go:490 fieldAddr
      refine QL.no rfl rfl ?_
      -- R10.22 66 := law.go:490 load
      refine QL.no rfl rfl ?_
      -- R10.23 67 := law.go:490 binOp
      refine QL.no rfl rfl ?_
      -- R10.24 68 := law.go:490 pick
      refine QL.v (fun w st => by first | exact r_pickT (v := .bool _) rfl rfl | exact r_pickF (v := .bool _) rfl rfl) rfl rfl rfl ?_
      refine QL.wl hKq fun w st => ?_
      refine WL.fin hK1897 (fun _ _ h => h) ?_
      refine WC.condF rfl rfl ?_
      refine WC.skipF hK1896 (fun _ _ h => h) ?_
      refine WC.seq fun K1898 hK1898 => ?_
      -- region 12
      refine WC.region ?_
      -- R12.0 69 := law.go:493 fieldAddr
      refine WL.v (by exact r_field ty_fld42_3 rfl) rfl rfl rfl ?_
      -- R12.1 70 := law.go:493 load
      refine WL.v (by exact r_load1 (v := .bool true) ty_one4 rfl (by rw [← hwt, st.c0 (by decide), upds_eq]; rfl)) rfl rfl rfl ?_
      -- R12.2 71 := law.go:493 unOp
      refine WL.v (by first | exact r_notT rfl | exact r_notF rfl | exact r_not rfl) rfl rfl rfl ?_
      -- R12.3 72 := law.go:493 move
      refine WL.v (by first | exact r_move (v := .bool _) rfl | exact r_move rfl) rfl rfl rfl ?_
      -- R12.4 73 := law.go:493 fieldAddr
      refine WL.no rfl rfl ?_
      -- R12.5 74 := law.go:493 load
      refine WL.no rfl rfl ?_
      -- R12.6 75 := law.go:493 binOp
      refine WL.no rfl rfl ?_
      -- R12.7 76 := law.go:493 pick
      refine WL.v (by first | exact r_pickT (v := .bool _) rfl rfl | exact r_pickF (v := .bool _) rfl rfl) rfl rfl rfl ?_
      refine WL.fin hK1898 (fun _ _ h => h) ?_
      refine WC.condF rfl rfl ?_
      refine WC.skipF hK1894 (fun _ _ h => h) ?_
      -- region 14
      refine WC.region ?_
      -- R14.0 77 := law.go:489 binOp
      refine WL.v (by first | exact r_add rfl rfl (wi64 (by omega) (by omega)) | exact r_add rfl rfl rfl) rfl rfl rfl ?_
      -- R14.1 41 := law.go:489 move
      refine WL.v (by first | exact r_move (v := .int _ _) rfl | exact r_move rfl) rfl rfl rfl ?_
      refine WL.next hK3 (fun _ _ h => h) (i + 1) ⟨hi', st.drop⟩ (by omega) (by repeat (first | exact sub_nil _ | refine sub_cons rfl rfl ?_))
theorem timed_ok (a : Option Addr) (sb so n c : Nat) (op : Nat → Kern.Op) (hD : gD w) (hS : Scr w sb so n op) (hn63 : n ≤ 140737488355328) (ha : 0 < n → a = some ⟨sb, so, none⟩) :
    Calls Tryz.prog 19 #[.slice a n c] w (Ret fun v w' => v = .bool true ∧ S0 w [] w') := by
  have st : S0 w [] w := St.init w _
  by_cases hn : n ≤ 65536
  · have hC : CheckOK w 62 #[] op n fun _ LI => LI = [] := by
      refine check_pure fun i hi bB bA qv qv' ov l w' hck st' => ?_
      have hK := run_KI op i
      have hI := run_INV op i
      have hT := run_TI op n hn i (by omega)
      have hT' := run_TI op n hn (i + 1) (by omega)
      have hnow := hK.now
      have hS2 := timed_step (o := op i) hK.b hI (by omega) hK.told hT.1 hT.2
      have hpn := (pend_step (o := op i) hK.b hI hK.told).1
      refine timed1_ok (s := runP op i) (s' := runP op (i + 1)) hD (fun a ha => ?_) (fun a ha h4 => hS2.2.2 a ha h4) (fun t ht hw hd0 => ?_) (fun t ht hw => hT'.1.z t (hT'.1.w t hw)) hck st'
      · obtain ⟨k, hk⟩ := List.getElem?_of_mem ha
        exact (PA_at hpn k a hk).1
      · have hne : ((runP op (i + 1)).tk t).timer ≠ 0 := fun e => hd0 (hT'.1.z t e)
        have hm := hT'.1.a t ht hne
        rw [List.append_nil] at hm
        exact hT'.2 _ hm
    refine enter [.slice a n c] Tryz.func19 rfl Tryz.ntmps19 rfl ?_
    show WC _ _ _ 8 [] [(0, .slice a n c)] _
    refine WC.seq fun K1899 hK1899 => ?_
    -- region 0
    refine WC.region ?_
    -- R0.0 2 := law.go:478 assign
    refine WL.v (by first | exact r_assign (v := .bool _) rfl | exact r_assign rfl) rfl rfl rfl ?_
    refine WL.fin hK1899 (fun _ _ h => h) ?_
    refine WC.seq fun K1900 hK1900 => ?_
    refine WC.seq fun K1901 hK1901 => ?_
    -- region 1
    refine WC.region ?_
    -- R1.0 3 := law.go:479 move
    refine WL.v (by first | exact r_move (v := .slice _ _ _) rfl | exact r_move rfl) rfl rfl rfl ?_
    -- R1.1 4 := law.go:479 call
    refine WL.call (r_call ty_call23 rfl) rfl rfl rfl (zzSmall1_ok a n c st) ?_
    rintro _ w' ⟨he, st⟩
    rw [decide_eq_true hn] at he
    subst he
    -- R1.2 5 := law.go:479 unOp
    refine WL.v (by first | exact r_notT rfl | exact r_notF rfl | exact r_not rfl) rfl rfl rfl ?_
    refine WL.fin hK1901 (fun _ _ h => h) ?_
    refine WC.condF rfl rfl ?_
    refine WC.skipF hK1900 (fun _ _ h => h) ?_
    refine WC.seq fun K1902 hK1902 => ?_
    -- region 3
    refine WC.region ?_
    -- R3.0 6 := law.go:483 move
    refine WL.v (by first | exact r_move (v := .slice _ _ _) rfl | exact r_move rfl) rfl rfl rfl ?_
    -- R3.1 7 := law.go:483 call
    refine WL.call (r_call ty_call24 rfl) rfl rfl rfl (play_ok (LI := []) (l := []) ty_call62 hD hS hn ha hC rfl st) ?_
    rintro _ w'' ⟨rfl, LI', rfl, st⟩
    -- R3.2 2 := law.go:483 assign
    refine WL.v (by first | exact r_assign (v := .bool _) rfl | exact r_assign rfl) rfl rfl rfl ?_
    refine WL.fin hK1902 (fun _ _ h => h) ?_
    refine WC.ret1 Tryz.results19 (fun _ _ h => h) rfl ?_
    exact ⟨_, rfl, rfl, st⟩
  · skip
    refine enter [.slice a n c] Tryz.func19 rfl Tryz.ntmps19 rfl ?_
    show WC _ _ _ 8 [] [(0, .slice a n c)] _
    refine WC.seq fun K1903 hK1903 => ?_
    -- region 0
    refine WC.region ?_
    -- R0.0 2 := law.go:478 assign
    refine WL.v (by first | exact r_assign (v := .bool _) rfl | exact r_assign rfl) rfl rfl rfl ?_
    refine WL.fin hK1903 (fun _ _ h => h) ?_
    refine WC.seq fun K1904 hK1904 => ?_
    refine WC.seq fun K1905 hK1905 => ?_
    -- region 1
    refine WC.region ?_
    -- R1.0 3 := law.go:479 move
    refine WL.v (by first | exact r_move (v := .slice _ _ _) rfl | exact r_move rfl) rfl rfl rfl ?_
    -- R1.1 4 := law.go:479 call
    refine WL.call (r_call ty_call23 rfl) rfl rfl rfl (zzSmall1_ok a n c st) ?_
    rintro _ w' ⟨he, st⟩
    rw [decide_eq_false hn] at he
    subst he
    -- R1.2 5 := law.go:479 unOp
    refine WL.v (by first | exact r_notT rfl | exact r_notF rfl | exact r_not rfl) rfl rfl rfl ?_
    refine WL.fin hK1905 (fun _ _ h => h) ?_
    refine WC.condT rfl rfl ?_
    refine WC.seq fun K1906 hK1906 => ?_
    -- region 2
    refine WC.region ?_
    -- R2.0 2 := law.go:480 assign
    refine WL.v (by first | exact r_assign (v := .bool _) rfl | exact r_assign rfl) rfl rfl rfl ?_
    refine WL.fin hK1906 (fun _ _ h => h) ?_
    refine WC.ret1 Tryz.results19 (fun _ _ h => h) rfl ?_
    exact ⟨_, rfl, rfl, st⟩
end Go.Proofs.Qxb6500834aGreatDoor

