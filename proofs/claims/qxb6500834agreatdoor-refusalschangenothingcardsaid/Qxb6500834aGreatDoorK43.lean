import Derived.Test.Qxb6500834aGreatDoorK42
set_option linter.unusedVariables false
set_option linter.unusedSimpArgs false
set_option maxRecDepth 20000
namespace Go.Proofs.Qxb6500834aGreatDoor
open Go.RowKit Go.E1 Go.Kern
theorem ty_call45 : callT Tryz.prog 45 = true := by kernel_rfl
theorem ty_call56 : callT Tryz.prog 56 = true := by kernel_rfl
variable {w0 : World} {l X : List HI} {w : World} {s s' s0 : KS} {t r N n : Nat} {qv qv' : Nat → Value}

/-! Law: refusals change nothing. -/
theorem refuse_plain {o : Kern.Op} : (stepP s o).2.1 ≠ 0 → (stepP s o).2.1 ≠ 1 → (stepP s o).2.1 ≠ 3 → (stepP s o).1 = s ∧ (stepP s o).2.2 = -1 := by
  have acq : ∀ t r u tim, (acquireP s t r u tim).2 ≠ 0 → (acquireP s t r u tim).2 ≠ 1 → (acquireP s t r u tim).2 ≠ 3 → (acquireP s t r u tim).1 = s := by
    intro t r u tim
    unfold acquireP
    split
    · intro _ _ _; rfl
    split
    · intro _ _ _; rfl
    split
    · intro _ _ _; rfl
    unfold acq2
    split
    · intro h; exact absurd rfl h
    split
    · intro _ _ _; rfl
    split
    · intro _ _ h; exact absurd rfl h
    split
    · intro _ h; exact absurd rfl h
    split
    · intro h; exact absurd rfl h
    · intro _ h; exact absurd rfl h
  unfold stepP
  split
  · show (setModeP s (nameP o.A 4)).2 ≠ 0 → _
    unfold setModeP
    split
    · intro _ _ _; exact ⟨rfl, rfl⟩
    split
    · intro _ _ _; exact ⟨rfl, rfl⟩
    · intro h; exact absurd rfl h
  · unfold spawnP
    split
    · intro _ _ _; exact ⟨rfl, rfl⟩
    · intro h; exact absurd rfl h
  · show (declareK s (nameP o.A 16) (nameP o.B 20) (nameP o.C 17)).2 ≠ 0 → _
    unfold declareK
    split
    · intro _ _ _; exact ⟨rfl, rfl⟩
    split
    · intro _ _ _; exact ⟨rfl, rfl⟩
    · intro h _ _
      dsimp only at h ⊢
      exact ⟨by rw [if_neg h], rfl⟩
  · intro h1 h2 h3; exact ⟨acq _ _ _ _ h1 h2 h3, rfl⟩
  · intro h1 h2 h3; exact ⟨acq _ _ _ _ h1 h2 h3, rfl⟩
  · intro h1 h2 h3; exact ⟨acq _ _ _ _ h1 h2 h3, rfl⟩
  · show (releaseP s (nameP o.A 16) (nameP o.B 20)).2 ≠ 0 → _
    unfold releaseP
    split
    · intro _ _ _; exact ⟨rfl, rfl⟩
    split
    · intro _ _ _; exact ⟨rfl, rfl⟩
    split
    · intro _ _ _; exact ⟨rfl, rfl⟩
    split
    · intro _ _ _; exact ⟨rfl, rfl⟩
    · intro h; exact absurd rfl h
  · show (writeP s (nameP o.A 16) (nameP o.B 12) o.X).2 ≠ 0 → _
    unfold writeP
    split
    · intro _ _ _; exact ⟨rfl, rfl⟩
    split
    · intro _ _ _; exact ⟨rfl, rfl⟩
    split
    · intro _ _ _; exact ⟨rfl, rfl⟩
    split
    · intro _ _ _; exact ⟨rfl, rfl⟩
    · intro h; exact absurd rfl h
  · show (commitP s (nameP o.A 16)).2 ≠ 0 → _
    unfold commitP
    split
    · intro _ _ _; exact ⟨rfl, rfl⟩
    · intro h; exact absurd rfl h
  · show (exitP s (nameP o.A 16)).2 ≠ 0 → _
    unfold exitP
    split
    · intro _ _ _; exact ⟨rfl, rfl⟩
    · intro h; exact absurd rfl h
  · intro h; exact absurd rfl h
  · unfold detectP
    split
    · intro _ _ _; exact ⟨rfl, rfl⟩
    · intro h; exact absurd rfl h
  · intro _ _ _; exact ⟨rfl, rfl⟩
theorem after_same {o : Kern.Op} (h : (stepP s o).1 = s) (ht : s.told = []) : afterP s o = s := by
  unfold afterP
  rw [h]
  obtain ⟨⟩ := s
  simp at ht
  subst ht
  rfl
set_option maxHeartbeats 4000000 in
theorem refusals1_ok {o : Kern.Op} {bB bA : Nat} {code task : Int} {ov : Value} {ans : List (Nat × Nat × Nat)}  (hne : code ≠ 0 → code ≠ 1 → code ≠ 3 → s' = s ∧ ans = [] ∧ task = -1) (hck : CK s s' ans bB bA qv qv' ov l) (st : S0 w0 l w) :
    Calls Tryz.prog 56 #[.agg (stepL o bB bA code task ov).toArray] w (Ret fun v w' => v = .bool true ∧ S0 w0 l w') := by
  obtain ⟨XO, ho, hXO⟩ := hck.a
  obtain ⟨a, c, b, rfl, hc1, hc2, ha, hcell⟩ := ho.form
  obtain ⟨fs, hfs⟩ : ∃ fs : Nat → Value, fs = nth (stepL o bB bA code task (.slice a ans.length c)) := ⟨_, rfl⟩
  have f5 : fs 5 = .pointer (some ⟨bB, 0, none⟩) := by rw [hfs]; rfl
  have f6 : fs 6 = .pointer (some ⟨bA, 0, none⟩) := by rw [hfs]; rfl
  have f7 : fs 7 = .int .i64 code := by rw [hfs]; rfl
  have f8 : fs 8 = .int .i64 task := by rw [hfs]; rfl
  have f9 : fs 9 = .slice a ans.length c := by rw [hfs]; rfl
  by_cases h0 : code = 0
  · skip
    refine enter [.agg (stepL o bB bA code task (.slice a ans.length c)).toArray] Tryz.func56 rfl Tryz.ntmps56 rfl ?_
    show WC _ _ _ 37 [] [(0, .agg (stepL o bB bA code task (.slice a ans.length c)).toArray)] _
    refine WC.seq fun K1472 hK1472 => ?_
    -- region 0
    refine WC.region ?_
    -- R0.0 1 := law.go:321 box
    refine WL.box (m := 10) (vs := stepL o bB bA code task (.slice a ans.length c)) st rfl rfl rfl rfl rfl rfl ?_
    intro b1 w st
    have st : S0 w0 ((b1, Row 36 10 fs) :: l) w := by rw [hfs]; exact st
    -- R0.1 2 := law.go:321 assign
    refine WL.v (by first | exact r_assign (v := .bool _) rfl | exact r_assign rfl) rfl rfl rfl ?_
    refine WL.fin hK1472 (fun _ _ h => h) ?_
    refine WC.seq fun K1473 hK1473 => ?_
    refine WC.seq fun K1474 hK1474 => ?_
    -- region 1
    refine WC.region ?_
    -- R1.0 3 := law.go:322 fieldAddr
    refine WL.v (by exact r_field ty_fld36_3 rfl) rfl rfl rfl ?_
    -- R1.1 4 := law.go:322 fieldAddr
    refine WL.v (by exact r_field ty_fld34_0 rfl) rfl rfl rfl ?_
    -- R1.2 5 := law.go:322 load
    refine WL.v (by exact r_load1 (v := .int .i64 code) ty_one30 rfl (by rw [← f7]; exact st.c0 (by decide))) rfl rfl rfl ?_
    -- R1.3 6 := law.go:322 binOp
    refine WL.v (by first | exact r_eql rfl rfl (decide_eq_true (by omega)) | exact r_eql rfl rfl (decide_eq_false (by omega)) | exact r_eql rfl rfl rfl) rfl rfl rfl ?_
    -- R1.4 7 := law.go:322 move
    refine WL.v (by first | exact r_move (v := .bool _) rfl | exact r_move rfl) rfl rfl rfl ?_
    -- R1.5 8 := law.go:322 fieldAddr
    refine WL.no rfl rfl ?_
    -- R1.6 9 := law.go:322 fieldAddr
    refine WL.no rfl rfl ?_
    -- R1.7 10 := law.go:322 load
    refine WL.no rfl rfl ?_
    -- R1.8 11 := law.go:322 binOp
    refine WL.no rfl rfl ?_
    -- R1.9 12 := law.go:322 pick
    refine WL.v (by first | exact r_pickT (v := .bool _) rfl rfl | exact r_pickF (v := .bool _) rfl rfl) rfl rfl rfl ?_
    -- R1.10 13 := law.go:322 move
    refine WL.v (by first | exact r_move (v := .bool _) rfl | exact r_move rfl) rfl rfl rfl ?_
    -- R1.11 14 := law.go:322 fieldAddr
    refine WL.no rfl rfl ?_
    -- R1.12 15 := law.go:322 fieldAddr
    refine WL.no rfl rfl ?_
    -- R1.13 16 := law.go:322 load
    refine WL.no rfl rfl ?_
    -- R1.14 17 := law.go:322 binOp
    refine WL.no rfl rfl ?_
    -- R1.15 18 := law.go:322 pick
    refine WL.v (by first | exact r_pickT (v := .bool _) rfl rfl | exact r_pickF (v := .bool _) rfl rfl) rfl rfl rfl ?_
    refine WL.fin hK1474 (fun _ _ h => h) ?_
    refine WC.condT rfl rfl ?_
    refine WC.seq fun K1475 hK1475 => ?_
    -- region 2
    refine WC.region ?_
    -- R2.0 2 := law.go:323 assign
    refine WL.v (by first | exact r_assign (v := .bool _) rfl | exact r_assign rfl) rfl rfl rfl ?_
    refine WL.fin hK1475 (fun _ _ h => h) ?_
    refine WC.ret1 Tryz.results56 (fun _ _ h => h) rfl ?_
    exact ⟨_, rfl, rfl, st.drop⟩
  by_cases h1 : code = 1
  · skip
    refine enter [.agg (stepL o bB bA code task (.slice a ans.length c)).toArray] Tryz.func56 rfl Tryz.ntmps56 rfl ?_
    show WC _ _ _ 37 [] [(0, .agg (stepL o bB bA code task (.slice a ans.length c)).toArray)] _
    refine WC.seq fun K1476 hK1476 => ?_
    -- region 0
    refine WC.region ?_
    -- R0.0 1 := law.go:321 box
    refine WL.box (m := 10) (vs := stepL o bB bA code task (.slice a ans.length c)) st rfl rfl rfl rfl rfl rfl ?_
    intro b1 w st
    have st : S0 w0 ((b1, Row 36 10 fs) :: l) w := by rw [hfs]; exact st
    -- R0.1 2 := law.go:321 assign
    refine WL.v (by first | exact r_assign (v := .bool _) rfl | exact r_assign rfl) rfl rfl rfl ?_
    refine WL.fin hK1476 (fun _ _ h => h) ?_
    refine WC.seq fun K1477 hK1477 => ?_
    refine WC.seq fun K1478 hK1478 => ?_
    -- region 1
    refine WC.region ?_
    -- R1.0 3 := law.go:322 fieldAddr
    refine WL.v (by exact r_field ty_fld36_3 rfl) rfl rfl rfl ?_
    -- R1.1 4 := law.go:322 fieldAddr
    refine WL.v (by exact r_field ty_fld34_0 rfl) rfl rfl rfl ?_
    -- R1.2 5 := law.go:322 load
    refine WL.v (by exact r_load1 (v := .int .i64 code) ty_one30 rfl (by rw [← f7]; exact st.c0 (by decide))) rfl rfl rfl ?_
    -- R1.3 6 := law.go:322 binOp
    refine WL.v (by first | exact r_eql rfl rfl (decide_eq_true (by omega)) | exact r_eql rfl rfl (decide_eq_false (by omega)) | exact r_eql rfl rfl rfl) rfl rfl rfl ?_
    -- R1.4 7 := law.go:322 move
    refine WL.v (by first | exact r_move (v := .bool _) rfl | exact r_move rfl) rfl rfl rfl ?_
    -- R1.5 8 := law.go:322 fieldAddr
    refine WL.v (by exact r_field ty_fld36_3 rfl) rfl rfl rfl ?_
    -- R1.6 9 := law.go:322 fieldAddr
    refine WL.v (by exact r_field ty_fld34_0 rfl) rfl rfl rfl ?_
    -- R1.7 10 := law.go:322 load
    refine WL.v (by exact r_load1 (v := .int .i64 code) ty_one30 rfl (by rw [← f7]; exact st.c0 (by decide))) rfl rfl rfl ?_
    -- R1.8 11 := law.go:322 binOp
    refine WL.v (by first | exact r_eql rfl rfl (decide_eq_true (by omega)) | exact r_eql rfl rfl (decide_eq_false (by omega)) | exact r_eql rfl rfl rfl) rfl rfl rfl ?_
    -- R1.9 12 := law.go:322 pick
    refine WL.v (by first | exact r_pickT (v := .bool _) rfl rfl | exact r_pickF (v := .bool _) rfl rfl) rfl rfl rfl ?_
    -- R1.10 13 := law.go:322 move
    refine WL.v (by first | exact r_move (v := .bool _) rfl | exact r_move rfl) rfl rfl rfl ?_
    -- R1.11 14 := law.go:322 fieldAddr
    refine WL.no rfl rfl ?_
    -- R1.12 15 := law.go:322 fieldAddr
    refine WL.no rfl rfl ?_
    -- R1.13 16 := law.go:322 load
    refine WL.no rfl rfl ?_
    -- R1.14 17 := law.go:322 binOp
    refine WL.no rfl rfl ?_
    -- R1.15 18 := law.go:322 pick
    refine WL.v (by first | exact r_pickT (v := .bool _) rfl rfl | exact r_pickF (v := .bool _) rfl rfl) rfl rfl rfl ?_
    refine WL.fin hK1478 (fun _ _ h => h) ?_
    refine WC.condT rfl rfl ?_
    refine WC.seq fun K1479 hK1479 => ?_
    -- region 2
    refine WC.region ?_
    -- R2.0 2 := law.go:323 assign
    refine WL.v (by first | exact r_assign (v := .bool _) rfl | exact r_assign rfl) rfl rfl rfl ?_
    refine WL.fin hK1479 (fun _ _ h => h) ?_
    refine WC.ret1 Tryz.results56 (fun _ _ h => h) rfl ?_
    exact ⟨_, rfl, rfl, st.drop⟩
  by_cases h3 : code = 3
  · skip
    refine enter [.agg (stepL o bB bA code task (.slice a ans.length c)).toArray] Tryz.func56 rfl Tryz.ntmps56 rfl ?_
    show WC _ _ _ 37 [] [(0, .agg (stepL o bB bA code task (.slice a ans.length c)).toArray)] _
    refine WC.seq fun K1480 hK1480 => ?_
    -- region 0
    refine WC.region ?_
    -- R0.0 1 := law.go:321 box
    refine WL.box (m := 10) (vs := stepL o bB bA code task (.slice a ans.length c)) st rfl rfl rfl rfl rfl rfl ?_
    intro b1 w st
    have st : S0 w0 ((b1, Row 36 10 fs) :: l) w := by rw [hfs]; exact st
    -- R0.1 2 := law.go:321 assign
    refine WL.v (by first | exact r_assign (v := .bool _) rfl | exact r_assign rfl) rfl rfl rfl ?_
    refine WL.fin hK1480 (fun _ _ h => h) ?_
    refine WC.seq fun K1481 hK1481 => ?_
    refine WC.seq fun K1482 hK1482 => ?_
    -- region 1
    refine WC.region ?_
    -- R1.0 3 := law.go:322 fieldAddr
    refine WL.v (by exact r_field ty_fld36_3 rfl) rfl rfl rfl ?_
    -- R1.1 4 := law.go:322 fieldAddr
    refine WL.v (by exact r_field ty_fld34_0 rfl) rfl rfl rfl ?_
    -- R1.2 5 := law.go:322 load
    refine WL.v (by exact r_load1 (v := .int .i64 code) ty_one30 rfl (by rw [← f7]; exact st.c0 (by decide))) rfl rfl rfl ?_
    -- R1.3 6 := law.go:322 binOp
    refine WL.v (by first | exact r_eql rfl rfl (decide_eq_true (by omega)) | exact r_eql rfl rfl (decide_eq_false (by omega)) | exact r_eql rfl rfl rfl) rfl rfl rfl ?_
    -- R1.4 7 := law.go:322 move
    refine WL.v (by first | exact r_move (v := .bool _) rfl | exact r_move rfl) rfl rfl rfl ?_
    -- R1.5 8 := law.go:322 fieldAddr
    refine WL.v (by exact r_field ty_fld36_3 rfl) rfl rfl rfl ?_
    -- R1.6 9 := law.go:322 fieldAddr
    refine WL.v (by exact r_field ty_fld34_0 rfl) rfl rfl rfl ?_
    -- R1.7 10 := law.go:322 load
    refine WL.v (by exact r_load1 (v := .int .i64 code) ty_one30 rfl (by rw [← f7]; exact st.c0 (by decide))) rfl rfl rfl ?_
    -- R1.8 11 := law.go:322 binOp
    refine WL.v (by first | exact r_eql rfl rfl (decide_eq_true (by omega)) | exact r_eql rfl rfl (decide_eq_false (by omega)) | exact r_eql rfl rfl rfl) rfl rfl rfl ?_
    -- R1.9 12 := law.go:322 pick
    refine WL.v (by first | exact r_pickT (v := .bool _) rfl rfl | exact r_pickF (v := .bool _) rfl rfl) rfl rfl rfl ?_
    -- R1.10 13 := law.go:322 move
    refine WL.v (by first | exact r_move (v := .bool _) rfl | exact r_move rfl) rfl rfl rfl ?_
    -- R1.11 14 := law.go:322 fieldAddr
    refine WL.v (by exact r_field ty_fld36_3 rfl) rfl rfl rfl ?_
    -- R1.12 15 := law.go:322 fieldAddr
    refine WL.v (by exact r_field ty_fld34_0 rfl) rfl rfl rfl ?_
    -- R1.13 16 := law.go:322 load
    refine WL.v (by exact r_load1 (v := .int .i64 code) ty_one30 rfl (by rw [← f7]; exact st.c0 (by decide))) rfl rfl rfl ?_
    -- R1.14 17 := law.go:322 binOp
    refine WL.v (by first | exact r_eql rfl rfl (decide_eq_true (by omega)) | exact r_eql rfl rfl (decide_eq_false (by omega)) | exact r_eql rfl rfl rfl) rfl rfl rfl ?_
    -- R1.15 18 := law.go:322 pick
    refine WL.v (by first | exact r_pickT (v := .bool _) rfl rfl | exact r_pickF (v := .bool _) rfl rfl) rfl rfl rfl ?_
    refine WL.fin hK1482 (fun _ _ h => h) ?_
    refine WC.condT rfl rfl ?_
    refine WC.seq fun K1483 hK1483 => ?_
    -- region 2
    refine WC.region ?_
    -- R2.0 2 := law.go:323 assign
    refine WL.v (by first | exact r_assign (v := .bool _) rfl | exact r_assign rfl) rfl rfl rfl ?_
    refine WL.fin hK1483 (fun _ _ h => h) ?_
    refine WC.ret1 Tryz.results56 (fun _ _ h => h) rfl ?_
    exact ⟨_, rfl, rfl, st.drop⟩
  obtain ⟨rfl, hans, htask⟩ := hne h0 h1 h3
  refine enter [.agg (stepL o bB bA code task (.slice a ans.length c)).toArray] Tryz.func56 rfl Tryz.ntmps56 rfl ?_
  show WC _ _ _ 37 [] [(0, .agg (stepL o bB bA code task (.slice a ans.length c)).toArray)] _
  refine WC.seq fun K1484 hK1484 => ?_
  -- region 0
  refine WC.region ?_
  -- R0.0 1 := law.go:321 box
  refine WL.box (m := 10) (vs := stepL o bB bA code task (.slice a ans.length c)) st rfl rfl rfl rfl rfl rfl ?_
  intro b1 w st
  have st : S0 w0 ((b1, Row 36 10 fs) :: l) w := by rw [hfs]; exact st
  -- R0.1 2 := law.go:321 assign
  refine WL.v (by first | exact r_assign (v := .bool _) rfl | exact r_assign rfl) rfl rfl rfl ?_
  refine WL.fin hK1484 (fun _ _ h => h) ?_
  refine WC.seq fun K1485 hK1485 => ?_
  refine WC.seq fun K1486 hK1486 => ?_
  -- region 1
  refine WC.region ?_
  -- R1.0 3 := law.go:322 fieldAddr
  refine WL.v (by exact r_field ty_fld36_3 rfl) rfl rfl rfl ?_
  -- R1.1 4 := law.go:322 fieldAddr
  refine WL.v (by exact r_field ty_fld34_0 rfl) rfl rfl rfl ?_
  -- R1.2 5 := law.go:322 load
  refine WL.v (by exact r_load1 (v := .int .i64 code) ty_one30 rfl (by rw [← f7]; exact st.c0 (by decide))) rfl rfl rfl ?_
  -- R1.3 6 := law.go:322 binOp
  refine WL.v (by first | exact r_eql rfl rfl (decide_eq_true (by omega)) | exact r_eql rfl rfl (decide_eq_false (by omega)) | exact r_eql rfl rfl rfl) rfl rfl rfl ?_
  -- R1.4 7 := law.go:322 move
  refine WL.v (by first | exact r_move (v := .bool _) rfl | exact r_move rfl) rfl rfl rfl ?_
  -- R1.5 8 := law.go:322 fieldAddr
  refine WL.v (by exact r_field ty_fld36_3 rfl) rfl rfl rfl ?_
  -- R1.6 9 := law.go:322 fieldAddr
  refine WL.v (by exact r_field ty_fld34_0 rfl) rfl rfl rfl ?_
  -- R1.7 10 := law.go:322 load
  refine WL.v (by exact r_load1 (v := .int .i64 code) ty_one30 rfl (by rw [← f7]; exact st.c0 (by decide))) rfl rfl rfl ?_
  -- R1.8 11 := law.go:322 binOp
  refine WL.v (by first | exact r_eql rfl rfl (decide_eq_true (by omega)) | exact r_eql rfl rfl (decide_eq_false (by omega)) | exact r_eql rfl rfl rfl) rfl rfl rfl ?_
  -- R1.9 12 := law.go:322 pick
  refine WL.v (by first | exact r_pickT (v := .bool _) rfl rfl | exact r_pickF (v := .bool _) rfl rfl) rfl rfl rfl ?_
  -- R1.10 13 := law.go:322 move
  refine WL.v (by first | exact r_move (v := .bool _) rfl | exact r_move rfl) rfl rfl rfl ?_
  -- R1.11 14 := law.go:322 fieldAddr
  refine WL.v (by exact r_field ty_fld36_3 rfl) rfl rfl rfl ?_
  -- R1.12 15 := law.go:322 fieldAddr
  refine WL.v (by exact r_field ty_fld34_0 rfl) rfl rfl rfl ?_
  -- R1.13 16 := law.go:322 load
  refine WL.v (by exact r_load1 (v := .int .i64 code) ty_one30 rfl (by rw [← f7]; exact st.c0 (by decide))) rfl rfl rfl ?_
  -- R1.14 17 := law.go:322 binOp
  refine WL.v (by first | exact r_eql rfl rfl (decide_eq_true (by omega)) | exact r_eql rfl rfl (decide_eq_false (by omega)) | exact r_eql rfl rfl rfl) rfl rfl rfl ?_
  -- R1.15 18 := law.go:322 pick
  refine WL.v (by first | exact r_pickT (v := .bool _) rfl rfl | exact r_pickF (v := .bool _) rfl rfl) rfl rfl rfl ?_
  refine WL.fin hK1486 (fun _ _ h => h) ?_
  refine WC.condF rfl rfl ?_
  refine WC.skipF hK1485 (fun _ _ h => h) ?_
  refine WC.seq fun K1487 hK1487 => ?_
  -- region 3
  refine WC.region ?_
  -- R3.0 19 := law.go:325 fieldAddr
  refine WL.v (by exact r_field ty_fld36_2 rfl) rfl rfl rfl ?_
  -- R3.1 20 := law.go:325 load
  refine WL.v (by exact r_load1 (v := .pointer (some ⟨bA, 0, none⟩)) ty_one29 rfl (by rw [← f6]; exact st.c0 (by decide))) rfl rfl rfl ?_
  -- R3.2 21 := law.go:325 fieldAddr
  refine WL.v (by exact r_field ty_fld36_1 rfl) rfl rfl rfl ?_
  -- R3.3 22 := law.go:325 load
  refine WL.v (by exact r_load1 (v := .pointer (some ⟨bB, 0, none⟩)) ty_one29 rfl (by rw [← f5]; exact st.c0 (by decide))) rfl rfl rfl ?_
  -- R3.4 23 := law.go:325 call
  refine WL.call (r_call ty_call45 rfl) rfl rfl rfl (stateEq_ok (hck.c (a := (b1, Row 36 10 fs))).A (hck.c (a := (b1, Row 36 10 fs))).B (hck.c (a := (b1, Row 36 10 fs))).q' (hck.c (a := (b1, Row 36 10 fs))).q st) ?_
  rintro _ w ⟨rfl, st⟩
  -- R3.5 24 := law.go:325 move
  refine WL.v (by first | exact r_move (v := .bool _) rfl | exact r_move rfl) rfl rfl rfl ?_
  -- R3.6 25 := law.go:325 fieldAddr
  refine WL.v (by exact r_field ty_fld36_3 rfl) rfl rfl rfl ?_
  -- R3.7 26 := law.go:325 fieldAddr
  refine WL.v (by exact r_field ty_fld34_2 rfl) rfl rfl rfl ?_
  -- R3.8 27 := law.go:325 load
  refine WL.v (by exact r_load1 (v := .slice a ans.length c) ty_one32 rfl (by rw [← f9]; exact st.c0 (by decide))) rfl rfl rfl ?_
  -- R3.9 28 := law.go:325 call
  refine WL.v (by exact r_len ty_usl32 rfl) rfl rfl rfl ?_
  -- R3.10 29 := law.go:325 binOp
  refine WL.v (by exact r_eql rfl rfl (decide_eq_true (by rw [hans]; rfl))) rfl rfl rfl ?_
  -- R3.11 30 := law.go:325 pick
  refine WL.v (by first | exact r_pickT (v := .bool _) rfl rfl | exact r_pickF (v := .bool _) rfl rfl) rfl rfl rfl ?_
  -- R3.12 31 := law.go:325 move
  refine WL.v (by first | exact r_move (v := .bool _) rfl | exact r_move rfl) rfl rfl rfl ?_
  -- R3.13 32 := law.go:325 fieldAddr
  refine WL.v (by exact r_field ty_fld36_3 rfl) rfl rfl rfl ?_
  -- R3.14 33 := law.go:325 fieldAddr
  refine WL.v (by exact r_field ty_fld34_1 rfl) rfl rfl rfl ?_
  -- R3.15 34 := law.go:325 load
  refine WL.v (by exact r_load1 (v := .int .i64 task) ty_one31 rfl (by rw [← f8]; exact st.c0 (by decide))) rfl rfl rfl ?_
  -- R3.16 35 := law.go:325 binOp
  refine WL.v (by exact r_eql rfl rfl (decide_eq_true htask)) rfl rfl rfl ?_
  -- R3.17 36 := law.go:325 pick
  refine WL.v (by first | exact r_pickT (v := .bool _) rfl rfl | exact r_pickF (v := .bool _) rfl rfl) rfl rfl rfl ?_
  -- R3.18 2 := law.go:325 assign
  refine WL.v (by first | exact r_assign (v := .bool _) rfl | exact r_assign rfl) rfl rfl rfl ?_
  refine WL.fin hK1487 (fun _ _ h => h) ?_
  refine WC.ret1 Tryz.results56 (fun _ _ h => h) rfl ?_
  exact ⟨_, rfl, rfl, st.drop⟩
theorem refusals_ok (a : Option Addr) (sb so n c : Nat) (op : Nat → Kern.Op) (hD : gD w) (hS : Scr w sb so n op) (hn63 : n ≤ 140737488355328) (ha : 0 < n → a = some ⟨sb, so, none⟩) :
    Calls Tryz.prog 14 #[.slice a n c] w (Ret fun v w' => v = .bool true ∧ S0 w [] w') := by
  have st : S0 w [] w := St.init w _
  by_cases hn : n ≤ 65536
  · have hC : CheckOK w 56 #[] op n fun _ LI => LI = [] := by
      refine check_pure fun i hi bB bA qv qv' ov l w' hck st' => ?_
      have hK := run_KI op i
      have hI := run_INV op i
      refine refusals1_ok (fun h0 h1 h3 => ?_) hck st'
      have h := refuse_plain h0 h1 h3
      exact ⟨after_same h.1 hK.told, by rw [h.1]; exact hK.told, h.2⟩
    refine enter [.slice a n c] Tryz.func14 rfl Tryz.ntmps14 rfl ?_
    show WC _ _ _ 8 [] [(0, .slice a n c)] _
    refine WC.seq fun K1488 hK1488 => ?_
    -- region 0
    refine WC.region ?_
    -- R0.0 2 := law.go:316 assign
    refine WL.v (by first | exact r_assign (v := .bool _) rfl | exact r_assign rfl) rfl rfl rfl ?_
    refine WL.fin hK1488 (fun _ _ h => h) ?_
    refine WC.seq fun K1489 hK1489 => ?_
    refine WC.seq fun K1490 hK1490 => ?_
    -- region 1
    refine WC.region ?_
    -- R1.0 3 := law.go:317 move
    refine WL.v (by first | exact r_move (v := .slice _ _ _) rfl | exact r_move rfl) rfl rfl rfl ?_
    -- R1.1 4 := law.go:317 call
    refine WL.call (r_call ty_call23 rfl) rfl rfl rfl (zzSmall1_ok a n c st) ?_
    rintro _ w' ⟨he, st⟩
    rw [decide_eq_true hn] at he
    subst he
    -- R1.2 5 := law.go:317 unOp
    refine WL.v (by first | exact r_notT rfl | exact r_notF rfl | exact r_not rfl) rfl rfl rfl ?_
    refine WL.fin hK1490 (fun _ _ h => h) ?_
    refine WC.condF rfl rfl ?_
    refine WC.skipF hK1489 (fun _ _ h => h) ?_
    refine WC.seq fun K1491 hK1491 => ?_
    -- region 3
    refine WC.region ?_
    -- R3.0 6 := law.go:321 move
    refine WL.v (by first | exact r_move (v := .slice _ _ _) rfl | exact r_move rfl) rfl rfl rfl ?_
    -- R3.1 7 := law.go:321 call
    refine WL.call (r_call ty_call24 rfl) rfl rfl rfl (play_ok (LI := []) (l := []) ty_call56 hD hS hn ha hC rfl st) ?_
    rintro _ w'' ⟨rfl, LI', rfl, st⟩
    -- R3.2 2 := law.go:321 assign
    refine WL.v (by first | exact r_assign (v := .bool _) rfl | exact r_assign rfl) rfl rfl rfl ?_
    refine WL.fin hK1491 (fun _ _ h => h) ?_
    refine WC.ret1 Tryz.results14 (fun _ _ h => h) rfl ?_
    exact ⟨_, rfl, rfl, st⟩
  · skip
    refine enter [.slice a n c] Tryz.func14 rfl Tryz.ntmps14 rfl ?_
    show WC _ _ _ 8 [] [(0, .slice a n c)] _
    refine WC.seq fun K1492 hK1492 => ?_
    -- region 0
    refine WC.region ?_
    -- R0.0 2 := law.go:316 assign
    refine WL.v (by first | exact r_assign (v := .bool _) rfl | exact r_assign rfl) rfl rfl rfl ?_
    refine WL.fin hK1492 (fun _ _ h => h) ?_
    refine WC.seq fun K1493 hK1493 => ?_
    refine WC.seq fun K1494 hK1494 => ?_
    -- region 1
    refine WC.region ?_
    -- R1.0 3 := law.go:317 move
    refine WL.v (by first | exact r_move (v := .slice _ _ _) rfl | exact r_move rfl) rfl rfl rfl ?_
    -- R1.1 4 := law.go:317 call
    refine WL.call (r_call ty_call23 rfl) rfl rfl rfl (zzSmall1_ok a n c st) ?_
    rintro _ w' ⟨he, st⟩
    rw [decide_eq_false hn] at he
    subst he
    -- R1.2 5 := law.go:317 unOp
    refine WL.v (by first | exact r_notT rfl | exact r_notF rfl | exact r_not rfl) rfl rfl rfl ?_
    refine WL.fin hK1494 (fun _ _ h => h) ?_
    refine WC.condT rfl rfl ?_
    refine WC.seq fun K1495 hK1495 => ?_
    -- region 2
    refine WC.region ?_
    -- R2.0 2 := law.go:318 assign
    refine WL.v (by first | exact r_assign (v := .bool _) rfl | exact r_assign rfl) rfl rfl rfl ?_
    refine WL.fin hK1495 (fun _ _ h => h) ?_
    refine WC.ret1 Tryz.results14 (fun _ _ h => h) rfl ?_
    exact ⟨_, rfl, rfl, st⟩
end Go.Proofs.Qxb6500834aGreatDoor

