import Derived.Test.Qxb6500834aGreatDoorK45
set_option linter.unusedVariables false
set_option linter.unusedSimpArgs false
set_option maxRecDepth 20000
namespace Go.Proofs.Qxb6500834aGreatDoor
open Go.RowKit Go.E1 Go.Kern
theorem ty_agg36 : aggT Tryz.prog 36 = some 10 := by kernel_rfl
theorem ty_call33 : callT Tryz.prog 33 = true := by kernel_rfl
theorem ty_call45 : callT Tryz.prog 45 = true := by kernel_rfl
theorem ty_call49 : callT Tryz.prog 49 = true := by kernel_rfl
variable {w0 : World} {l X : List HI} {w : World} {s s' s0 : KS} {t r N n : Nat} {qv qv' : Nat → Value}
set_option maxHeartbeats 4000000 in
theorem writes1_ok {o : Kern.Op} {bB bA : Nat} {code task : Int} {ov : Value} {ans : List (Nat × Nat × Nat)}  (hk : o.kind ≠ 7 → code ≠ 19) (h1 : o.kind = 7 → (cfB s o = false ∨ wiP o.B 12 = false) → code ≠ 0 ∧ code ≠ 19 ∧ s' = s) (h2 : o.kind = 7 → cfB s o = true → wiP o.B 12 = true → s.held o.A.toNat (8 + o.B.toNat) ≠ 16 → code = 19 ∧ s' = s) (h3 : o.kind = 7 → cfB s o = true → wiP o.B 12 = true → s.held o.A.toNat (8 + o.B.toNat) = 16 → code = 0 ∨ code = 20) (hck : CK s s' ans bB bA qv qv' ov l) (st : S0 w0 l w) :
    Calls Tryz.prog 49 #[.agg (stepL o bB bA code task ov).toArray] w (Ret fun v w' => v = .bool true ∧ S0 w0 l w') := by
  obtain ⟨XO, ho, hXO⟩ := hck.a
  obtain ⟨a, c, b, rfl, hc1, hc2, ha, hcell⟩ := ho.form
  obtain ⟨fs, hfs⟩ : ∃ fs : Nat → Value, fs = nth (stepL o bB bA code task (.slice a ans.length c)) := ⟨_, rfl⟩
  have f0 : fs 0 = .int .u8 (o.kind : Nat) := by rw [hfs]; rfl
  have f1 : fs 1 = .int .i64 o.A := by rw [hfs]; rfl
  have f2 : fs 2 = .int .i64 o.B := by rw [hfs]; rfl
  have f3 : fs 3 = .int .i64 o.C := by rw [hfs]; rfl
  have f4 : fs 4 = .int .u64 (o.X : Nat) := by rw [hfs]; rfl
  have f5 : fs 5 = .pointer (some ⟨bB, 0, none⟩) := by rw [hfs]; rfl
  have f6 : fs 6 = .pointer (some ⟨bA, 0, none⟩) := by rw [hfs]; rfl
  have f7 : fs 7 = .int .i64 code := by rw [hfs]; rfl
  have f8 : fs 8 = .int .i64 task := by rw [hfs]; rfl
  have f9 : fs 9 = .slice a ans.length c := by rw [hfs]; rfl
  by_cases h7 : o.kind = 7
  rotate_left
  · skip
    refine enter [.agg (stepL o bB bA code task (.slice a ans.length c)).toArray] Tryz.func49 rfl Tryz.ntmps49 rfl ?_
    show WC _ _ _ 78 [] [(0, .agg (stepL o bB bA code task (.slice a ans.length c)).toArray)] _
    refine WC.seq fun K1539 hK1539 => ?_
    -- region 0
    refine WC.region ?_
    -- R0.0 1 := law.go:186 box
    refine WL.box (m := 10) (vs := stepL o bB bA code task (.slice a ans.length c)) st rfl rfl rfl rfl rfl rfl ?_
    intro b1 w st
    have st : S0 w0 ((b1, Row 36 10 fs) :: l) w := by rw [hfs]; exact st
    -- R0.1 2 := law.go:186 assign
    refine WL.v (by first | exact r_assign (v := .bool _) rfl | exact r_assign rfl) rfl rfl rfl ?_
    refine WL.fin hK1539 (fun _ _ h => h) ?_
    refine WC.seq fun K1540 hK1540 => ?_
    refine WC.seq fun K1541 hK1541 => ?_
    -- region 1
    refine WC.region ?_
    -- R1.0 5 := law.go:187 fieldAddr
    refine WL.v (by exact r_field ty_fld36_0 rfl) rfl rfl rfl ?_
    -- R1.1 6 := law.go:187 fieldAddr
    refine WL.v (by exact r_field ty_fld28_0 rfl) rfl rfl rfl ?_
    -- R1.2 7 := law.go:187 load
    refine WL.v (by exact r_load1 (v := .int .u8 (o.kind : Nat)) ty_one25 rfl (by rw [← f0]; exact st.c0 (by decide))) rfl rfl rfl ?_
    -- R1.3 8 := law.go:187 binOp
    refine WL.v (by first | exact r_neq rfl rfl (decide_eq_true (by omega)) | exact r_neq rfl rfl (decide_eq_false (by omega)) | exact r_neq rfl rfl rfl) rfl rfl rfl ?_
    refine WL.fin hK1541 (fun _ _ h => h) ?_
    refine WC.condT rfl rfl ?_
    refine WC.seq fun K1542 hK1542 => ?_
    -- region 2
    refine WC.region ?_
    -- R2.0 9 := law.go:188 fieldAddr
    refine WL.v (by exact r_field ty_fld36_3 rfl) rfl rfl rfl ?_
    -- R2.1 10 := law.go:188 fieldAddr
    refine WL.v (by exact r_field ty_fld34_0 rfl) rfl rfl rfl ?_
    -- R2.2 11 := law.go:188 load
    refine WL.v (by exact r_load1 (v := .int .i64 code) ty_one30 rfl (by rw [← f7]; exact st.c0 (by decide))) rfl rfl rfl ?_
    -- R2.3 12 := law.go:188 binOp
    refine WL.v (by exact r_neq rfl rfl (decide_eq_true (hk h7))) rfl rfl rfl ?_
    -- R2.4 2 := law.go:188 assign
    refine WL.v (by first | exact r_assign (v := .bool _) rfl | exact r_assign rfl) rfl rfl rfl ?_
    refine WL.fin hK1542 (fun _ _ h => h) ?_
    refine WC.ret1 Tryz.results49 (fun _ _ h => h) rfl ?_
    exact ⟨_, rfl, rfl, st.drop⟩
  cases hF : cfB s o with
  | false =>
    obtain ⟨hc0, hc19, rfl⟩ := h1 h7 (.inl hF)
    refine enter [.agg (stepL o bB bA code task (.slice a ans.length c)).toArray] Tryz.func49 rfl Tryz.ntmps49 rfl ?_
    show WC _ _ _ 78 [] [(0, .agg (stepL o bB bA code task (.slice a ans.length c)).toArray)] _
    refine WC.seq fun K1543 hK1543 => ?_
    -- region 0
    refine WC.region ?_
    -- R0.0 1 := law.go:186 box
    refine WL.box (m := 10) (vs := stepL o bB bA code task (.slice a ans.length c)) st rfl rfl rfl rfl rfl rfl ?_
    intro b1 w st
    have st : S0 w0 ((b1, Row 36 10 fs) :: l) w := by rw [hfs]; exact st
    -- R0.1 2 := law.go:186 assign
    refine WL.v (by first | exact r_assign (v := .bool _) rfl | exact r_assign rfl) rfl rfl rfl ?_
    refine WL.fin hK1543 (fun _ _ h => h) ?_
    refine WC.seq fun K1544 hK1544 => ?_
    refine WC.seq fun K1545 hK1545 => ?_
    -- region 1
    refine WC.region ?_
    -- R1.0 5 := law.go:187 fieldAddr
    refine WL.v (by exact r_field ty_fld36_0 rfl) rfl rfl rfl ?_
    -- R1.1 6 := law.go:187 fieldAddr
    refine WL.v (by exact r_field ty_fld28_0 rfl) rfl rfl rfl ?_
    -- R1.2 7 := law.go:187 load
    refine WL.v (by exact r_load1 (v := .int .u8 (o.kind : Nat)) ty_one25 rfl (by rw [← f0]; exact st.c0 (by decide))) rfl rfl rfl ?_
    -- R1.3 8 := law.go:187 binOp
    refine WL.v (by first | exact r_neq rfl rfl (decide_eq_true (by omega)) | exact r_neq rfl rfl (decide_eq_false (by omega)) | exact r_neq rfl rfl rfl) rfl rfl rfl ?_
    refine WL.fin hK1545 (fun _ _ h => h) ?_
    refine WC.condF rfl rfl ?_
    refine WC.skipF hK1544 (fun _ _ h => h) ?_
    refine WC.seq fun K1546 hK1546 => ?_
    -- region 3
    refine WC.region ?_
    -- R3.0 14 := law.go:190 load
    refine WL.v (by exact r_loadL (vs := stepL o bB bA code task (.slice a ans.length c)) ty_agg36 rfl ⟨(st.c0 (by decide)).trans (congrArg some f0), (st.c0 (by decide)).trans (congrArg some f1), (st.c0 (by decide)).trans (congrArg some f2), (st.c0 (by decide)).trans (congrArg some f3), (st.c0 (by decide)).trans (congrArg some f4), (st.c0 (by decide)).trans (congrArg some f5), (st.c0 (by decide)).trans (congrArg some f6), (st.c0 (by decide)).trans (congrArg some f7), (st.c0 (by decide)).trans (congrArg some f8), (st.c0 (by decide)).trans (congrArg some f9), trivial⟩) rfl rfl rfl ?_
    -- R3.1 15 := law.go:190 call
    refine WL.call (r_call ty_call33 rfl) rfl rfl rfl (callerL_ok (o := o) (List.mem_cons_of_mem _ hck.B) rfl st) ?_
    rintro _ w ⟨he, st⟩
    rw [hF] at he
    subst he
    -- R3.2 13 := law.go:190 move
    refine WL.v (by first | exact r_move (v := .tuple _) rfl | exact r_move rfl) rfl rfl rfl ?_
    -- R3.3 16 := law.go:190 extract
    refine WL.v (by first | exact r_extract (v := .int _ _) rfl rfl | exact r_extract rfl rfl) rfl rfl rfl ?_
    -- R3.4 17 := law.go:190 extract
    refine WL.v (by first | exact r_extract (v := .bool _) rfl rfl | exact r_extract rfl rfl) rfl rfl rfl ?_
    -- R3.5 3 := law.go:190 assign
    refine WL.v (by first | exact r_assign (v := .int _ _) rfl | exact r_assign rfl) rfl rfl rfl ?_
    -- R3.6 4 := law.go:190 assign
    refine WL.v (by first | exact r_assign (v := .bool _) rfl | exact r_assign rfl) rfl rfl rfl ?_
    refine WL.fin hK1546 (fun _ _ h => h) ?_
    refine WC.seq fun K1547 hK1547 => ?_
    refine WC.seq fun K1548 hK1548 => ?_
    -- region 4
    refine WC.region ?_
    -- R4.0 18 := law.go:191 move
    refine WL.v (by first | exact r_move (v := .bool _) rfl | exact r_move rfl) rfl rfl rfl ?_
    -- R4.1 19 := law.go:191 unOp
    refine WL.v (by first | exact r_notT rfl | exact r_notF rfl | exact r_not rfl) rfl rfl rfl ?_
    -- R4.2 20 := law.go:191 move
    refine WL.v (by first | exact r_move (v := .bool _) rfl | exact r_move rfl) rfl rfl rfl ?_
    -- R4.3 21 := law.go:191 fieldAddr
    refine WL.no rfl rfl ?_
    -- R4.4 22 := law.go:191 fieldAddr
    refine WL.no rfl rfl ?_
    -- R4.5 23 := law.go:191 load
    refine WL.no rfl rfl ?_
    -- R4.6 24 := law.go:191 call
    refine WL.no rfl rfl ?_
    -- R4.7 25 := law.go:191 unOp
    refine WL.no rfl rfl ?_
    -- R4.8 26 := law.go:191 pick
    refine WL.v (by first | exact r_pickT (v := .bool _) rfl rfl | exact r_pickF (v := .bool _) rfl rfl) rfl rfl rfl ?_
    refine WL.fin hK1548 (fun _ _ h => h) ?_
    refine WC.condT rfl rfl ?_
    refine WC.seq fun K1549 hK1549 => ?_
    -- region 5
    refine WC.region ?_
    -- R5.0 27 := law.go:192 fieldAddr
    refine WL.v (by exact r_field ty_fld36_3 rfl) rfl rfl rfl ?_
    -- R5.1 28 := law.go:192 fieldAddr
    refine WL.v (by exact r_field ty_fld34_0 rfl) rfl rfl rfl ?_
    -- R5.2 29 := law.go:192 load
    refine WL.v (by exact r_load1 (v := .int .i64 code) ty_one30 rfl (by rw [← f7]; exact st.c0 (by decide))) rfl rfl rfl ?_
    -- R5.3 30 := law.go:192 binOp
    refine WL.v (by exact r_neq rfl rfl (decide_eq_true hc0)) rfl rfl rfl ?_
    -- R5.4 31 := law.go:192 move
    refine WL.v (by first | exact r_move (v := .bool _) rfl | exact r_move rfl) rfl rfl rfl ?_
    -- R5.5 32 := law.go:192 fieldAddr
    refine WL.v (by exact r_field ty_fld36_3 rfl) rfl rfl rfl ?_
    -- R5.6 33 := law.go:192 fieldAddr
    refine WL.v (by exact r_field ty_fld34_0 rfl) rfl rfl rfl ?_
    -- R5.7 34 := law.go:192 load
    refine WL.v (by exact r_load1 (v := .int .i64 code) ty_one30 rfl (by rw [← f7]; exact st.c0 (by decide))) rfl rfl rfl ?_
    -- R5.8 35 := law.go:192 binOp
    refine WL.v (by exact r_neq rfl rfl (decide_eq_true hc19)) rfl rfl rfl ?_
    -- R5.9 36 := law.go:192 pick
    refine WL.v (by first | exact r_pickT (v := .bool _) rfl rfl | exact r_pickF (v := .bool _) rfl rfl) rfl rfl rfl ?_
    -- R5.10 37 := law.go:192 move
    refine WL.v (by first | exact r_move (v := .bool _) rfl | exact r_move rfl) rfl rfl rfl ?_
    -- R5.11 38 := law.go:192 fieldAddr
    refine WL.v (by exact r_field ty_fld36_2 rfl) rfl rfl rfl ?_
    -- R5.12 39 := law.go:192 load
    refine WL.v (by exact r_load1 (v := .pointer (some ⟨bA, 0, none⟩)) ty_one29 rfl (by rw [← f6]; exact st.c0 (by decide))) rfl rfl rfl ?_
    -- R5.13 40 := law.go:192 fieldAddr
    refine WL.v (by exact r_field ty_fld36_1 rfl) rfl rfl rfl ?_
    -- R5.14 41 := law.go:192 load
    refine WL.v (by exact r_load1 (v := .pointer (some ⟨bB, 0, none⟩)) ty_one29 rfl (by rw [← f5]; exact st.c0 (by decide))) rfl rfl rfl ?_
    -- R5.15 42 := law.go:192 call
    refine WL.call (r_call ty_call45 rfl) rfl rfl rfl (stateEq_ok (List.mem_cons_of_mem _ hck.A) (List.mem_cons_of_mem _ hck.B) hck.c.q' hck.c.q st) ?_
    rintro _ w ⟨rfl, st⟩
    -- R5.16 43 := law.go:192 pick
    refine WL.v (by first | exact r_pickT (v := .bool _) rfl rfl | exact r_pickF (v := .bool _) rfl rfl) rfl rfl rfl ?_
    -- R5.17 2 := law.go:192 assign
    refine WL.v (by first | exact r_assign (v := .bool _) rfl | exact r_assign rfl) rfl rfl rfl ?_
    refine WL.fin hK1549 (fun _ _ h => h) ?_
    refine WC.ret1 Tryz.results49 (fun _ _ h => h) rfl ?_
    exact ⟨_, rfl, rfl, st.drop⟩
  | true =>
    cases hWi : wiP o.B 12 with
    | false =>
      obtain ⟨hc0, hc19, rfl⟩ := h1 h7 (.inr hWi)
      refine enter [.agg (stepL o bB bA code task (.slice a ans.length c)).toArray] Tryz.func49 rfl Tryz.ntmps49 rfl ?_
      show WC _ _ _ 78 [] [(0, .agg (stepL o bB bA code task (.slice a ans.length c)).toArray)] _
      refine WC.seq fun K1550 hK1550 => ?_
      -- region 0
      refine WC.region ?_
      -- R0.0 1 := law.go:186 box
      refine WL.box (m := 10) (vs := stepL o bB bA code task (.slice a ans.length c)) st rfl rfl rfl rfl rfl rfl ?_
      intro b1 w st
      have st : S0 w0 ((b1, Row 36 10 fs) :: l) w := by rw [hfs]; exact st
      -- R0.1 2 := law.go:186 assign
      refine WL.v (by first | exact r_assign (v := .bool _) rfl | exact r_assign rfl) rfl rfl rfl ?_
      refine WL.fin hK1550 (fun _ _ h => h) ?_
      refine WC.seq fun K1551 hK1551 => ?_
      refine WC.seq fun K1552 hK1552 => ?_
      -- region 1
      refine WC.region ?_
      -- R1.0 5 := law.go:187 fieldAddr
      refine WL.v (by exact r_field ty_fld36_0 rfl) rfl rfl rfl ?_
      -- R1.1 6 := law.go:187 fieldAddr
      refine WL.v (by exact r_field ty_fld28_0 rfl) rfl rfl rfl ?_
      -- R1.2 7 := law.go:187 load
      refine WL.v (by exact r_load1 (v := .int .u8 (o.kind : Nat)) ty_one25 rfl (by rw [← f0]; exact st.c0 (by decide))) rfl rfl rfl ?_
      -- R1.3 8 := law.go:187 binOp
      refine WL.v (by first | exact r_neq rfl rfl (decide_eq_true (by omega)) | exact r_neq rfl rfl (decide_eq_false (by omega)) | exact r_neq rfl rfl rfl) rfl rfl rfl ?_
      refine WL.fin hK1552 (fun _ _ h => h) ?_
      refine WC.condF rfl rfl ?_
      refine WC.skipF hK1551 (fun _ _ h => h) ?_
      refine WC.seq fun K1553 hK1553 => ?_
      -- region 3
      refine WC.region ?_
      -- R3.0 14 := law.go:190 load
      refine WL.v (by exact r_loadL (vs := stepL o bB bA code task (.slice a ans.length c)) ty_agg36 rfl ⟨(st.c0 (by decide)).trans (congrArg some f0), (st.c0 (by decide)).trans (congrArg some f1), (st.c0 (by decide)).trans (congrArg some f2), (st.c0 (by decide)).trans (congrArg some f3), (st.c0 (by decide)).trans (congrArg some f4), (st.c0 (by decide)).trans (congrArg some f5), (st.c0 (by decide)).trans (congrArg some f6), (st.c0 (by decide)).trans (congrArg some f7), (st.c0 (by decide)).trans (congrArg some f8), (st.c0 (by decide)).trans (congrArg some f9), trivial⟩) rfl rfl rfl ?_
      -- R3.1 15 := law.go:190 call
      refine WL.call (r_call ty_call33 rfl) rfl rfl rfl (callerL_ok (o := o) (List.mem_cons_of_mem _ hck.B) rfl st) ?_
      rintro _ w ⟨he, st⟩
      rw [hF] at he
      subst he
      -- R3.2 13 := law.go:190 move
      refine WL.v (by first | exact r_move (v := .tuple _) rfl | exact r_move rfl) rfl rfl rfl ?_
      -- R3.3 16 := law.go:190 extract
      refine WL.v (by first | exact r_extract (v := .int _ _) rfl rfl | exact r_extract rfl rfl) rfl rfl rfl ?_
      -- R3.4 17 := law.go:190 extract
      refine WL.v (by first | exact r_extract (v := .bool _) rfl rfl | exact r_extract rfl rfl) rfl rfl rfl ?_
      -- R3.5 3 := law.go:190 assign
      refine WL.v (by first | exact r_assign (v := .int _ _) rfl | exact r_assign rfl) rfl rfl rfl ?_
      -- R3.6 4 := law.go:190 assign
      refine WL.v (by first | exact r_assign (v := .bool _) rfl | exact r_assign rfl) rfl rfl rfl ?_
      refine WL.fin hK1553 (fun _ _ h => h) ?_
      refine WC.seq fun K1554 hK1554 => ?_
      refine WC.seq fun K1555 hK1555 => ?_
      -- region 4
      refine WC.region ?_
      -- R4.0 18 := law.go:191 move
      refine WL.v (by first | exact r_move (v := .bool _) rfl | exact r_move rfl) rfl rfl rfl ?_
      -- R4.1 19 := law.go:191 unOp
      refine WL.v (by first | exact r_notT rfl | exact r_notF rfl | exact r_not rfl) rfl rfl rfl ?_
      -- R4.2 20 := law.go:191 move
      refine WL.v (by first | exact r_move (v := .bool _) rfl | exact r_move rfl) rfl rfl rfl ?_
      -- R4.3 21 := law.go:191 fieldAddr
      refine WL.v (by exact r_field ty_fld36_0 rfl) rfl rfl rfl ?_
      -- R4.4 22 := law.go:191 fieldAddr
      refine WL.v (by exact r_field ty_fld28_2 rfl) rfl rfl rfl ?_
      -- R4.5 23 := law.go:191 load
      refine WL.v (by exact r_load1 (v := .int .i64 o.B) ty_one2 rfl (by rw [← f2]; exact st.c0 (by decide))) rfl rfl rfl ?_
      -- R4.6 24 := law.go:191 call
      refine WL.call (r_call ty_call34 rfl) rfl rfl rfl (within_ok st) ?_
      rintro _ w ⟨he, st⟩
      rw [hWi] at he
      subst he
      -- R4.7 25 := law.go:191 unOp
      refine WL.v (by first | exact r_notT rfl | exact r_notF rfl | exact r_not rfl) rfl rfl rfl ?_
      -- R4.8 26 := law.go:191 pick
      refine WL.v (by first | exact r_pickT (v := .bool _) rfl rfl | exact r_pickF (v := .bool _) rfl rfl) rfl rfl rfl ?_
      refine WL.fin hK1555 (fun _ _ h => h) ?_
      refine WC.condT rfl rfl ?_
      refine WC.seq fun K1556 hK1556 => ?_
      -- region 5
      refine WC.region ?_
      -- R5.0 27 := law.go:192 fieldAddr
      refine WL.v (by exact r_field ty_fld36_3 rfl) rfl rfl rfl ?_
      -- R5.1 28 := law.go:192 fieldAddr
      refine WL.v (by exact r_field ty_fld34_0 rfl) rfl rfl rfl ?_
      -- R5.2 29 := law.go:192 load
      refine WL.v (by exact r_load1 (v := .int .i64 code) ty_one30 rfl (by rw [← f7]; exact st.c0 (by decide))) rfl rfl rfl ?_
      -- R5.3 30 := law.go:192 binOp
      refine WL.v (by exact r_neq rfl rfl (decide_eq_true hc0)) rfl rfl rfl ?_
      -- R5.4 31 := law.go:192 move
      refine WL.v (by first | exact r_move (v := .bool _) rfl | exact r_move rfl) rfl rfl rfl ?_
      -- R5.5 32 := law.go:192 fieldAddr
      refine WL.v (by exact r_field ty_fld36_3 rfl) rfl rfl rfl ?_
      -- R5.6 33 := law.go:192 fieldAddr
      refine WL.v (by exact r_field ty_fld34_0 rfl) rfl rfl rfl ?_
      -- R5.7 34 := law.go:192 load
      refine WL.v (by exact r_load1 (v := .int .i64 code) ty_one30 rfl (by rw [← f7]; exact st.c0 (by decide))) rfl rfl rfl ?_
      -- R5.8 35 := law.go:192 binOp
      refine WL.v (by exact r_neq rfl rfl (decide_eq_true hc19)) rfl rfl rfl ?_
      -- R5.9 36 := law.go:192 pick
      refine WL.v (by first | exact r_pickT (v := .bool _) rfl rfl | exact r_pickF (v := .bool _) rfl rfl) rfl rfl rfl ?_
      -- R5.10 37 := law.go:192 move
      refine WL.v (by first | exact r_move (v := .bool _) rfl | exact r_move rfl) rfl rfl rfl ?_
      -- R5.11 38 := law.go:192 fieldAddr
      refine WL.v (by exact r_field ty_fld36_2 rfl) rfl rfl rfl ?_
      -- R5.12 39 := law.go:192 load
      refine WL.v (by exact r_load1 (v := .pointer (some ⟨bA, 0, none⟩)) ty_one29 rfl (by rw [← f6]; exact st.c0 (by decide))) rfl rfl rfl ?_
      -- R5.13 40 := law.go:192 fieldAddr
      refine WL.v (by exact r_field ty_fld36_1 rfl) rfl rfl rfl ?_
      -- R5.14 41 := law.go:192 load
      refine WL.v (by exact r_load1 (v := .pointer (some ⟨bB, 0, none⟩)) ty_one29 rfl (by rw [← f5]; exact st.c0 (by decide))) rfl rfl rfl ?_
      -- R5.15 42 := law.go:192 call
      refine WL.call (r_call ty_call45 rfl) rfl rfl rfl (stateEq_ok (List.mem_cons_of_mem _ hck.A) (List.mem_cons_of_mem _ hck.B) hck.c.q' hck.c.q st) ?_
      rintro _ w ⟨rfl, st⟩
      -- R5.16 43 := law.go:192 pick
      refine WL.v (by first | exact r_pickT (v := .bool _) rfl rfl | exact r_pickF (v := .bool _) rfl rfl) rfl rfl rfl ?_
      -- R5.17 2 := law.go:192 assign
      refine WL.v (by first | exact r_assign (v := .bool _) rfl | exact r_assign rfl) rfl rfl rfl ?_
      refine WL.fin hK1556 (fun _ _ h => h) ?_
      refine WC.ret1 Tryz.results49 (fun _ _ h => h) rfl ?_
      exact ⟨_, rfl, rfl, st.drop⟩
    | true =>
      have hA : callQ o := by
        cases Decidable.em (callQ o) with
        | inl h => exact h
        | inr h => unfold cfB at hF; rw [if_neg h] at hF; cases hF
      have hW2 : 0 ≤ o.B ∧ o.B < 12 := of_decide_eq_true hWi
      obtain ⟨t, ht⟩ : ∃ t : Nat, o.A = t := ⟨o.A.toNat, by have := hA.2.2.1; omega⟩
      obtain ⟨b', hb'⟩ : ∃ t : Nat, o.B = t := ⟨o.B.toNat, by omega⟩
      have ht16 : t < 16 := by have := hA.2.2.2; omega
      have hT : cfT o = t := by unfold cfT; rw [if_pos hA, ht]
      have e1 : o.A.toNat = t := by omega
      have e2 : o.B.toNat = b' := by omega
      rw [e1, e2] at h2 h3
      by_cases h16 : s.held t (8 + b') = 16
      · skip
        rcases h3 h7 hF hWi h16 with hc | hc
        · skip
          refine enter [.agg (stepL o bB bA code task (.slice a ans.length c)).toArray] Tryz.func49 rfl Tryz.ntmps49 rfl ?_
          show WC _ _ _ 78 [] [(0, .agg (stepL o bB bA code task (.slice a ans.length c)).toArray)] _
          refine WC.seq fun K1557 hK1557 => ?_
          -- region 0
          refine WC.region ?_
          -- R0.0 1 := law.go:186 box
          refine WL.box (m := 10) (vs := stepL o bB bA code task (.slice a ans.length c)) st rfl rfl rfl rfl rfl rfl ?_
          intro b1 w st
          have st : S0 w0 ((b1, Row 36 10 fs) :: l) w := by rw [hfs]; exact st
          -- R0.1 2 := law.go:186 assign
          refine WL.v (by first | exact r_assign (v := .bool _) rfl | exact r_assign rfl) rfl rfl rfl ?_
          refine WL.fin hK1557 (fun _ _ h => h) ?_
          refine WC.seq fun K1558 hK1558 => ?_
          refine WC.seq fun K1559 hK1559 => ?_
          -- region 1
          refine WC.region ?_
          -- R1.0 5 := law.go:187 fieldAddr
          refine WL.v (by exact r_field ty_fld36_0 rfl) rfl rfl rfl ?_
          -- R1.1 6 := law.go:187 fieldAddr
          refine WL.v (by exact r_field ty_fld28_0 rfl) rfl rfl rfl ?_
          -- R1.2 7 := law.go:187 load
          refine WL.v (by exact r_load1 (v := .int .u8 (o.kind : Nat)) ty_one25 rfl (by rw [← f0]; exact st.c0 (by decide))) rfl rfl rfl ?_
          -- R1.3 8 := law.go:187 binOp
          refine WL.v (by first | exact r_neq rfl rfl (decide_eq_true (by omega)) | exact r_neq rfl rfl (decide_eq_false (by omega)) | exact r_neq rfl rfl rfl) rfl rfl rfl ?_
          refine WL.fin hK1559 (fun _ _ h => h) ?_
          refine WC.condF rfl rfl ?_
          refine WC.skipF hK1558 (fun _ _ h => h) ?_
          refine WC.seq fun K1560 hK1560 => ?_
          -- region 3
          refine WC.region ?_
          -- R3.0 14 := law.go:190 load
          refine WL.v (by exact r_loadL (vs := stepL o bB bA code task (.slice a ans.length c)) ty_agg36 rfl ⟨(st.c0 (by decide)).trans (congrArg some f0), (st.c0 (by decide)).trans (congrArg some f1), (st.c0 (by decide)).trans (congrArg some f2), (st.c0 (by decide)).trans (congrArg some f3), (st.c0 (by decide)).trans (congrArg some f4), (st.c0 (by decide)).trans (congrArg some f5), (st.c0 (by decide)).trans (congrArg some f6), (st.c0 (by decide)).trans (congrArg some f7), (st.c0 (by decide)).trans (congrArg some f8), (st.c0 (by decide)).trans (congrArg some f9), trivial⟩) rfl rfl rfl ?_
          -- R3.1 15 := law.go:190 call
          refine WL.call (r_call ty_call33 rfl) rfl rfl rfl (callerL_ok (o := o) (List.mem_cons_of_mem _ hck.B) rfl st) ?_
          rintro _ w ⟨he, st⟩
          rw [hF, hT] at he
          subst he
          -- R3.2 13 := law.go:190 move
          refine WL.v (by first | exact r_move (v := .tuple _) rfl | exact r_move rfl) rfl rfl rfl ?_
          -- R3.3 16 := law.go:190 extract
          refine WL.v (by first | exact r_extract (v := .int _ _) rfl rfl | exact r_extract rfl rfl) rfl rfl rfl ?_
          -- R3.4 17 := law.go:190 extract
          refine WL.v (by first | exact r_extract (v := .bool _) rfl rfl | exact r_extract rfl rfl) rfl rfl rfl ?_
          -- R3.5 3 := law.go:190 assign
          refine WL.v (by first | exact r_assign (v := .int _ _) rfl | exact r_assign rfl) rfl rfl rfl ?_
          -- R3.6 4 := law.go:190 assign
          refine WL.v (by first | exact r_assign (v := .bool _) rfl | exact r_assign rfl) rfl rfl rfl ?_
          refine WL.fin hK1560 (fun _ _ h => h) ?_
          refine WC.seq fun K1561 hK1561 => ?_
          refine WC.seq fun K1562 hK1562 => ?_
          -- region 4
          refine WC.region ?_
          -- R4.0 18 := law.go:191 move
          refine WL.v (by first | exact r_move (v := .bool _) rfl | exact r_move rfl) rfl rfl rfl ?_
          -- R4.1 19 := law.go:191 unOp
          refine WL.v (by first | exact r_notT rfl | exact r_notF rfl | exact r_not rfl) rfl rfl rfl ?_
          -- R4.2 20 := law.go:191 move
          refine WL.v (by first | exact r_move (v := .bool _) rfl | exact r_move rfl) rfl rfl rfl ?_
          -- R4.3 21 := law.go:191 fieldAddr
          refine WL.v (by exact r_field ty_fld36_0 rfl) rfl rfl rfl ?_
          -- R4.4 22 := law.go:191 fieldAddr
          refine WL.v (by exact r_field ty_fld28_2 rfl) rfl rfl rfl ?_
          -- R4.5 23 := law.go:191 load
          refine WL.v (by exact r_load1 (v := .int .i64 o.B) ty_one2 rfl (by rw [← f2]; exact st.c0 (by decide))) rfl rfl rfl ?_
          -- R4.6 24 := law.go:191 call
          refine WL.call (r_call ty_call34 rfl) rfl rfl rfl (within_ok st) ?_
          rintro _ w ⟨he, st⟩
          rw [hWi] at he
          subst he
          -- R4.7 25 := law.go:191 unOp
          refine WL.v (by first | exact r_notT rfl | exact r_notF rfl | exact r_not rfl) rfl rfl rfl ?_
          -- R4.8 26 := law.go:191 pick
          refine WL.v (by first | exact r_pickT (v := .bool _) rfl rfl | exact r_pickF (v := .bool _) rfl rfl) rfl rfl rfl ?_
          refine WL.fin hK1562 (fun _ _ h => h) ?_
          refine WC.condF rfl rfl ?_
          refine WC.skipF hK1561 (fun _ _ h => h) ?_
          refine WC.seq fun K1563 hK1563 => ?_
          refine WC.seq fun K1564 hK1564 => ?_
          -- region 6 (draws)
          refine WC.quietS st ty_mixed (by kernel_rfl) fun Kq hKq => ?_
          -- R6.0 44 := law.go:194 fieldAddr
          refine QL.v (fun w st => by exact r_field ty_fld36_1 rfl) rfl rfl rfl ?_
          -- R6.1 45 := law.go:194 load
          refine QL.v (fun w st => by exact r_load1 (v := .pointer (some ⟨bB, 0, none⟩)) ty_one29 rfl (by rw [← f5]; exact st.c0 (by decide))) rfl rfl rfl ?_
          -- R6.2 46 := law.go:194 move
          refine QL.v (fun w st => by first | exact r_move (v := .int _ _) rfl | exact r_move rfl) rfl rfl rfl ?_
          -- R6.3 47 := law.go:194 fieldAddr
          refine QL.v (fun w st => by exact r_field ty_fld36_0 rfl) rfl rfl rfl ?_
          -- R6.4 48 := law.go:194 fieldAddr
          refine QL.v (fun w st => by exact r_field ty_fld28_2 rfl) rfl rfl rfl ?_
          -- R6.5 49 := law.go:194 load
          refine QL.v (fun w st => by exact r_load1 (v := .int .i64 (b' : Nat)) ty_one2 rfl (by rw [← hb', ← f2]; exact st.c0 (by decide))) rfl rfl rfl ?_
          -- R6.6 50 := law.go:194 call
          refine QL.call (val := .int .i64 ((8 + b' : Nat) : Int)) (fun w st => r_call ty_call48 rfl) rfl rfl rfl (fun w st => lockOf_ok (c := b') (by omega) st) ?_
          -- R6.7 51 := law.go:194 nilCheck
          refine QL.v (fun w st => by exact r_nilCheck rfl) rfl rfl rfl ?_
          -- R6.8 52 := law.go:194 fieldAddr
          refine QL.v (fun w st => by exact r_field ty_fld50_4 rfl) rfl rfl rfl ?_
          -- R6.9 53 := law.go:194 indexAddr
          refine QL.v (fun w st => by exact r_indexA (j := t) ty_ar45 rfl rfl rfl ht16) rfl rfl rfl ?_
          -- R6.10 54 := law.go:194 indexAddr
          refine QL.v (fun w st => by exact r_indexA (j := 8 + b') ty_ar44 rfl rfl rfl (by omega)) rfl rfl rfl ?_
          -- R6.11 55 := law.go:194 load
          refine QL.v (fun w st => by exact r_load1 (v := .int .i64 (s.held t (8 + b') : Nat)) ty_one3 rfl (c_sH (List.mem_cons_of_mem _ hck.B) ht16 (r := 8 + b') (by omega) (by omega) st)) rfl rfl rfl ?_
          -- R6.12 56 := law.go:194 binOp
          refine QL.v (fun w st => by exact r_neq rfl rfl (decide_eq_false (by omega))) rfl rfl rfl ?_
          refine QL.wl hKq fun w st => ?_
          refine WL.fin hK1564 (fun _ _ h => h) ?_
          refine WC.condF rfl rfl ?_
          refine WC.skipF hK1563 (fun _ _ h => h) ?_
          refine WC.seq fun K1565 hK1565 => ?_
          -- region 8
          refine WC.region ?_
          -- R8.0 68 := law.go:197 fieldAddr
          refine WL.v (by exact r_field ty_fld36_3 rfl) rfl rfl rfl ?_
          -- R8.1 69 := law.go:197 fieldAddr
          refine WL.v (by exact r_field ty_fld34_0 rfl) rfl rfl rfl ?_
          -- R8.2 70 := law.go:197 load
          refine WL.v (by exact r_load1 (v := .int .i64 code) ty_one30 rfl (by rw [← f7]; exact st.c0 (by decide))) rfl rfl rfl ?_
          -- R8.3 71 := law.go:197 binOp
          refine WL.v (by first | exact r_eql rfl rfl (decide_eq_true (by omega)) | exact r_eql rfl rfl (decide_eq_false (by omega)) | exact r_eql rfl rfl rfl) rfl rfl rfl ?_
          -- R8.4 72 := law.go:197 move
          refine WL.v (by first | exact r_move (v := .bool _) rfl | exact r_move rfl) rfl rfl rfl ?_
          -- R8.5 73 := law.go:197 fieldAddr
          refine WL.no rfl rfl ?_
          -- R8.6 74 := law.go:197 fieldAddr
          refine WL.no rfl rfl ?_
          -- R8.7 75 := law.go:197 load
          refine WL.no rfl rfl ?_
          -- R8.8 76 := law.go:197 binOp
          refine WL.no rfl rfl ?_
          -- R8.9 77 := law.go:197 pick
          refine WL.v (by first | exact r_pickT (v := .bool _) rfl rfl | exact r_pickF (v := .bool _) rfl rfl) rfl rfl rfl ?_
          -- R8.10 2 := law.go:197 assign
          refine WL.v (by first | exact r_assign (v := .bool _) rfl | exact r_assign rfl) rfl rfl rfl ?_
          refine WL.fin hK1565 (fun _ _ h => h) ?_
          refine WC.ret1 Tryz.results49 (fun _ _ h => h) rfl ?_
          exact ⟨_, rfl, rfl, st.drop⟩
        · skip
          refine enter [.agg (stepL o bB bA code task (.slice a ans.length c)).toArray] Tryz.func49 rfl Tryz.ntmps49 rfl ?_
          show WC _ _ _ 78 [] [(0, .agg (stepL o bB bA code task (.slice a ans.length c)).toArray)] _
          refine WC.seq fun K1566 hK1566 => ?_
          -- region 0
          refine WC.region ?_
          -- R0.0 1 := law.go:186 box
          refine WL.box (m := 10) (vs := stepL o bB bA code task (.slice a ans.length c)) st rfl rfl rfl rfl rfl rfl ?_
          intro b1 w st
          have st : S0 w0 ((b1, Row 36 10 fs) :: l) w := by rw [hfs]; exact st
          -- R0.1 2 := law.go:186 assign
          refine WL.v (by first | exact r_assign (v := .bool _) rfl | exact r_assign rfl) rfl rfl rfl ?_
          refine WL.fin hK1566 (fun _ _ h => h) ?_
          refine WC.seq fun K1567 hK1567 => ?_
          refine WC.seq fun K1568 hK1568 => ?_
          -- region 1
          refine WC.region ?_
          -- R1.0 5 := law.go:187 fieldAddr
          refine WL.v (by exact r_field ty_fld36_0 rfl) rfl rfl rfl ?_
          -- R1.1 6 := law.go:187 fieldAddr
          refine WL.v (by exact r_field ty_fld28_0 rfl) rfl rfl rfl ?_
          -- R1.2 7 := law.go:187 load
          refine WL.v (by exact r_load1 (v := .int .u8 (o.kind : Nat)) ty_one25 rfl (by rw [← f0]; exact st.c0 (by decide))) rfl rfl rfl ?_
          -- R1.3 8 := law.go:187 binOp
          refine WL.v (by first | exact r_neq rfl rfl (decide_eq_true (by omega)) | exact r_neq rfl rfl (decide_eq_false (by omega)) | exact r_neq rfl rfl rfl) rfl rfl rfl ?_
          refine WL.fin hK1568 (fun _ _ h => h) ?_
          refine WC.condF rfl rfl ?_
          refine WC.skipF hK1567 (fun _ _ h => h) ?_
          refine WC.seq fun K1569 hK1569 => ?_
          -- region 3
          refine WC.region ?_
          -- R3.0 14 := law.go:190 load
          refine WL.v (by exact r_loadL (vs := stepL o bB bA code task (.slice a ans.length c)) ty_agg36 rfl ⟨(st.c0 (by decide)).trans (congrArg some f0), (st.c0 (by decide)).trans (congrArg some f1), (st.c0 (by decide)).trans (congrArg some f2), (st.c0 (by decide)).trans (congrArg some f3), (st.c0 (by decide)).trans (congrArg some f4), (st.c0 (by decide)).trans (congrArg some f5), (st.c0 (by decide)).trans (congrArg some f6), (st.c0 (by decide)).trans (congrArg some f7), (st.c0 (by decide)).trans (congrArg some f8), (st.c0 (by decide)).trans (congrArg some f9), trivial⟩) rfl rfl rfl ?_
          -- R3.1 15 := law.go:190 call
          refine WL.call (r_call ty_call33 rfl) rfl rfl rfl (callerL_ok (o := o) (List.mem_cons_of_mem _ hck.B) rfl st) ?_
          rintro _ w ⟨he, st⟩
          rw [hF, hT] at he
          subst he
          -- R3.2 13 := law.go:190 move
          refine WL.v (by first | exact r_move (v := .tuple _) rfl | exact r_move rfl) rfl rfl rfl ?_
          -- R3.3 16 := law.go:190 extract
          refine WL.v (by first | exact r_extract (v := .int _ _) rfl rfl | exact r_extract rfl rfl) rfl rfl rfl ?_
          -- R3.4 17 := law.go:190 extract
          refine WL.v (by first | exact r_extract (v := .bool _) rfl rfl | exact r_extract rfl rfl) rfl rfl rfl ?_
          -- R3.5 3 := law.go:190 assign
          refine WL.v (by first | exact r_assign (v := .int _ _) rfl | exact r_assign rfl) rfl rfl rfl ?_
          -- R3.6 4 := law.go:190 assign
          refine WL.v (by first | exact r_assign (v := .bool _) rfl | exact r_assign rfl) rfl rfl rfl ?_
          refine WL.fin hK1569 (fun _ _ h => h) ?_
          refine WC.seq fun K1570 hK1570 => ?_
          refine WC.seq fun K1571 hK1571 => ?_
          -- region 4
          refine WC.region ?_
          -- R4.0 18 := law.go:191 move
          refine WL.v (by first | exact r_move (v := .bool _) rfl | exact r_move rfl) rfl rfl rfl ?_
          -- R4.1 19 := law.go:191 unOp
          refine WL.v (by first | exact r_notT rfl | exact r_notF rfl | exact r_not rfl) rfl rfl rfl ?_
          -- R4.2 20 := law.go:191 move
          refine WL.v (by first | exact r_move (v := .bool _) rfl | exact r_move rfl) rfl rfl rfl ?_
          -- R4.3 21 := law.go:191 fieldAddr
          refine WL.v (by exact r_field ty_fld36_0 rfl) rfl rfl rfl ?_
          -- R4.4 22 := law.go:191 fieldAddr
          refine WL.v (by exact r_field ty_fld28_2 rfl) rfl rfl rfl ?_
          -- R4.5 23 := law.go:191 load
          refine WL.v (by exact r_load1 (v := .int .i64 o.B) ty_one2 rfl (by rw [← f2]; exact st.c0 (by decide))) rfl rfl rfl ?_
          -- R4.6 24 := law.go:191 call
          refine WL.call (r_call ty_call34 rfl) rfl rfl rfl (within_ok st) ?_
          rintro _ w ⟨he, st⟩
          rw [hWi] at he
          subst he
          -- R4.7 25 := law.go:191 unOp
          refine WL.v (by first | exact r_notT rfl | exact r_notF rfl | exact r_not rfl) rfl rfl rfl ?_
          -- R4.8 26 := law.go:191 pick
          refine WL.v (by first | exact r_pickT (v := .bool _) rfl rfl | exact r_pickF (v := .bool _) rfl rfl) rfl rfl rfl ?_
          refine WL.fin hK1571 (fun _ _ h => h) ?_
          refine WC.condF rfl rfl ?_
          refine WC.skipF hK1570 (fun _ _ h => h) ?_
          refine WC.seq fun K1572 hK1572 => ?_
          refine WC.seq fun K1573 hK1573 => ?_
          -- region 6 (draws)
          refine WC.quietS st ty_mixed (by kernel_rfl) fun Kq hKq => ?_
          -- R6.0 44 := law.go:194 fieldAddr
          refine QL.v (fun w st => by exact r_field ty_fld36_1 rfl) rfl rfl rfl ?_
          -- R6.1 45 := law.go:194 load
          refine QL.v (fun w st => by exact r_load1 (v := .pointer (some ⟨bB, 0, none⟩)) ty_one29 rfl (by rw [← f5]; exact st.c0 (by decide))) rfl rfl rfl ?_
          -- R6.2 46 := law.go:194 move
          refine QL.v (fun w st => by first | exact r_move (v := .int _ _) rfl | exact r_move rfl) rfl rfl rfl ?_
          -- R6.3 47 := law.go:194 fieldAddr
          refine QL.v (fun w st => by exact r_field ty_fld36_0 rfl) rfl rfl rfl ?_
          -- R6.4 48 := law.go:194 fieldAddr
          refine QL.v (fun w st => by exact r_field ty_fld28_2 rfl) rfl rfl rfl ?_
          -- R6.5 49 := law.go:194 load
          refine QL.v (fun w st => by exact r_load1 (v := .int .i64 (b' : Nat)) ty_one2 rfl (by rw [← hb', ← f2]; exact st.c0 (by decide))) rfl rfl rfl ?_
          -- R6.6 50 := law.go:194 call
          refine QL.call (val := .int .i64 ((8 + b' : Nat) : Int)) (fun w st => r_call ty_call48 rfl) rfl rfl rfl (fun w st => lockOf_ok (c := b') (by omega) st) ?_
          -- R6.7 51 := law.go:194 nilCheck
          refine QL.v (fun w st => by exact r_nilCheck rfl) rfl rfl rfl ?_
          -- R6.8 52 := law.go:194 fieldAddr
          refine QL.v (fun w st => by exact r_field ty_fld50_4 rfl) rfl rfl rfl ?_
          -- R6.9 53 := law.go:194 indexAddr
          refine QL.v (fun w st => by exact r_indexA (j := t) ty_ar45 rfl rfl rfl ht16) rfl rfl rfl ?_
          -- R6.10 54 := law.go:194 indexAddr
          refine QL.v (fun w st => by exact r_indexA (j := 8 + b') ty_ar44 rfl rfl rfl (by omega)) rfl rfl rfl ?_
          -- R6.11 55 := law.go:194 load
          refine QL.v (fun w st => by exact r_load1 (v := .int .i64 (s.held t (8 + b') : Nat)) ty_one3 rfl (c_sH (List.mem_cons_of_mem _ hck.B) ht16 (r := 8 + b') (by omega) (by omega) st)) rfl rfl rfl ?_
          -- R6.12 56 := law.go:194 binOp
          refine QL.v (fun w st => by exact r_neq rfl rfl (decide_eq_false (by omega))) rfl rfl rfl ?_
          refine QL.wl hKq fun w st => ?_
          refine WL.fin hK1573 (fun _ _ h => h) ?_
          refine WC.condF rfl rfl ?_
          refine WC.skipF hK1572 (fun _ _ h => h) ?_
          refine WC.seq fun K1574 hK1574 => ?_
          -- region 8
          refine WC.region ?_
          -- R8.0 68 := law.go:197 fieldAddr
          refine WL.v (by exact r_field ty_fld36_3 rfl) rfl rfl rfl ?_
          -- R8.1 69 := law.go:197 fieldAddr
          refine WL.v (by exact r_field ty_fld34_0 rfl) rfl rfl rfl ?_
          -- R8.2 70 := law.go:197 load
          refine WL.v (by exact r_load1 (v := .int .i64 code) ty_one30 rfl (by rw [← f7]; exact st.c0 (by decide))) rfl rfl rfl ?_
          -- R8.3 71 := law.go:197 binOp
          refine WL.v (by first | exact r_eql rfl rfl (decide_eq_true (by omega)) | exact r_eql rfl rfl (decide_eq_false (by omega)) | exact r_eql rfl rfl rfl) rfl rfl rfl ?_
          -- R8.4 72 := law.go:197 move
          refine WL.v (by first | exact r_move (v := .bool _) rfl | exact r_move rfl) rfl rfl rfl ?_
          -- R8.5 73 := law.go:197 fieldAddr
          refine WL.v (by exact r_field ty_fld36_3 rfl) rfl rfl rfl ?_
          -- R8.6 74 := law.go:197 fieldAddr
          refine WL.v (by exact r_field ty_fld34_0 rfl) rfl rfl rfl ?_
          -- R8.7 75 := law.go:197 load
          refine WL.v (by exact r_load1 (v := .int .i64 code) ty_one30 rfl (by rw [← f7]; exact st.c0 (by decide))) rfl rfl rfl ?_
          -- R8.8 76 := law.go:197 binOp
          refine WL.v (by first | exact r_eql rfl rfl (decide_eq_true (by omega)) | exact r_eql rfl rfl (decide_eq_false (by omega)) | exact r_eql rfl rfl rfl) rfl rfl rfl ?_
          -- R8.9 77 := law.go:197 pick
          refine WL.v (by first | exact r_pickT (v := .bool _) rfl rfl | exact r_pickF (v := .bool _) rfl rfl) rfl rfl rfl ?_
          -- R8.10 2 := law.go:197 assign
          refine WL.v (by first | exact r_assign (v := .bool _) rfl | exact r_assign rfl) rfl rfl rfl ?_
          refine WL.fin hK1574 (fun _ _ h => h) ?_
          refine WC.ret1 Tryz.results49 (fun _ _ h => h) rfl ?_
          exact ⟨_, rfl, rfl, st.drop⟩
      · skip
        obtain ⟨hc, hss⟩ := h2 h7 hF hWi h16
        have hss := hss.symm
        subst hss
        refine enter [.agg (stepL o bB bA code task (.slice a ans.length c)).toArray] Tryz.func49 rfl Tryz.ntmps49 rfl ?_
        show WC _ _ _ 78 [] [(0, .agg (stepL o bB bA code task (.slice a ans.length c)).toArray)] _
        refine WC.seq fun K1575 hK1575 => ?_
        -- region 0
        refine WC.region ?_
        -- R0.0 1 := law.go:186 box
        refine WL.box (m := 10) (vs := stepL o bB bA code task (.slice a ans.length c)) st rfl rfl rfl rfl rfl rfl ?_
        intro b1 w st
        have st : S0 w0 ((b1, Row 36 10 fs) :: l) w := by rw [hfs]; exact st
        -- R0.1 2 := law.go:186 assign
        refine WL.v (by first | exact r_assign (v := .bool _) rfl | exact r_assign rfl) rfl rfl rfl ?_
        refine WL.fin hK1575 (fun _ _ h => h) ?_
        refine WC.seq fun K1576 hK1576 => ?_
        refine WC.seq fun K1577 hK1577 => ?_
        -- region 1
        refine WC.region ?_
        -- R1.0 5 := law.go:187 fieldAddr
        refine WL.v (by exact r_field ty_fld36_0 rfl) rfl rfl rfl ?_
        -- R1.1 6 := law.go:187 fieldAddr
        refine WL.v (by exact r_field ty_fld28_0 rfl) rfl rfl rfl ?_
        -- R1.2 7 := law.go:187 load
        refine WL.v (by exact r_load1 (v := .int .u8 (o.kind : Nat)) ty_one25 rfl (by rw [← f0]; exact st.c0 (by decide))) rfl rfl rfl ?_
        -- R1.3 8 := law.go:187 binOp
        refine WL.v (by first | exact r_neq rfl rfl (decide_eq_true (by omega)) | exact r_neq rfl rfl (decide_eq_false (by omega)) | exact r_neq rfl rfl rfl) rfl rfl rfl ?_
        refine WL.fin hK1577 (fun _ _ h => h) ?_
        refine WC.condF rfl rfl ?_
        refine WC.skipF hK1576 (fun _ _ h => h) ?_
        refine WC.seq fun K1578 hK1578 => ?_
        -- region 3
        refine WC.region ?_
        -- R3.0 14 := law.go:190 load
        refine WL.v (by exact r_loadL (vs := stepL o bB bA code task (.slice a ans.length c)) ty_agg36 rfl ⟨(st.c0 (by decide)).trans (congrArg some f0), (st.c0 (by decide)).trans (congrArg some f1), (st.c0 (by decide)).trans (congrArg some f2), (st.c0 (by decide)).trans (congrArg some f3), (st.c0 (by decide)).trans (congrArg some f4), (st.c0 (by decide)).trans (congrArg some f5), (st.c0 (by decide)).trans (congrArg some f6), (st.c0 (by decide)).trans (congrArg some f7), (st.c0 (by decide)).trans (congrArg some f8), (st.c0 (by decide)).trans (congrArg some f9), trivial⟩) rfl rfl rfl ?_
        -- R3.1 15 := law.go:190 call
        refine WL.call (r_call ty_call33 rfl) rfl rfl rfl (callerL_ok (o := o) (List.mem_cons_of_mem _ hck.B) rfl st) ?_
        rintro _ w ⟨he, st⟩
        rw [hF, hT] at he
        subst he
        -- R3.2 13 := law.go:190 move
        refine WL.v (by first | exact r_move (v := .tuple _) rfl | exact r_move rfl) rfl rfl rfl ?_
        -- R3.3 16 := law.go:190 extract
        refine WL.v (by first | exact r_extract (v := .int _ _) rfl rfl | exact r_extract rfl rfl) rfl rfl rfl ?_
        -- R3.4 17 := law.go:190 extract
        refine WL.v (by first | exact r_extract (v := .bool _) rfl rfl | exact r_extract rfl rfl) rfl rfl rfl ?_
        -- R3.5 3 := law.go:190 assign
        refine WL.v (by first | exact r_assign (v := .int _ _) rfl | exact r_assign rfl) rfl rfl rfl ?_
        -- R3.6 4 := law.go:190 assign
        refine WL.v (by first | exact r_assign (v := .bool _) rfl | exact r_assign rfl) rfl rfl rfl ?_
        refine WL.fin hK1578 (fun _ _ h => h) ?_
        refine WC.seq fun K1579 hK1579 => ?_
        refine WC.seq fun K1580 hK1580 => ?_
        -- region 4
        refine WC.region ?_
        -- R4.0 18 := law.go:191 move
        refine WL.v (by first | exact r_move (v := .bool _) rfl | exact r_move rfl) rfl rfl rfl ?_
        -- R4.1 19 := law.go:191 unOp
        refine WL.v (by first | exact r_notT rfl | exact r_notF rfl | exact r_not rfl) rfl rfl rfl ?_
        -- R4.2 20 := law.go:191 move
        refine WL.v (by first | exact r_move (v := .bool _) rfl | exact r_move rfl) rfl rfl rfl ?_
        -- R4.3 21 := law.go:191 fieldAddr
        refine WL.v (by exact r_field ty_fld36_0 rfl) rfl rfl rfl ?_
        -- R4.4 22 := law.go:191 fieldAddr
        refine WL.v (by exact r_field ty_fld28_2 rfl) rfl rfl rfl ?_
        -- R4.5 23 := law.go:191 load
        refine WL.v (by exact r_load1 (v := .int .i64 o.B) ty_one2 rfl (by rw [← f2]; exact st.c0 (by decide))) rfl rfl rfl ?_
        -- R4.6 24 := law.go:191 call
        refine WL.call (r_call ty_call34 rfl) rfl rfl rfl (within_ok st) ?_
        rintro _ w ⟨he, st⟩
        rw [hWi] at he
        subst he
        -- R4.7 25 := law.go:191 unOp
        refine WL.v (by first | exact r_notT rfl | exact r_notF rfl | exact r_not rfl) rfl rfl rfl ?_
        -- R4.8 26 := law.go:191 pick
        refine WL.v (by first | exact r_pickT (v := .bool _) rfl rfl | exact r_pickF (v := .bool _) rfl rfl) rfl rfl rfl ?_
        refine WL.fin hK1580 (fun _ _ h => h) ?_
        refine WC.condF rfl rfl ?_
        refine WC.skipF hK1579 (fun _ _ h => h) ?_
        refine WC.seq fun K1581 hK1581 => ?_
        refine WC.seq fun K1582 hK1582 => ?_
        -- region 6 (draws)
        refine WC.quietS st ty_mixed (by kernel_rfl) fun Kq hKq => ?_
        -- R6.0 44 := law.go:194 fieldAddr
        refine QL.v (fun w st => by exact r_field ty_fld36_1 rfl) rfl rfl rfl ?_
        -- R6.1 45 := law.go:194 load
        refine QL.v (fun w st => by exact r_load1 (v := .pointer (some ⟨bB, 0, none⟩)) ty_one29 rfl (by rw [← f5]; exact st.c0 (by decide))) rfl rfl rfl ?_
        -- R6.2 46 := law.go:194 move
        refine QL.v (fun w st => by first | exact r_move (v := .int _ _) rfl | exact r_move rfl) rfl rfl rfl ?_
        -- R6.3 47 := law.go:194 fieldAddr
        refine QL.v (fun w st => by exact r_field ty_fld36_0 rfl) rfl rfl rfl ?_
        -- R6.4 48 := law.go:194 fieldAddr
        refine QL.v (fun w st => by exact r_field ty_fld28_2 rfl) rfl rfl rfl ?_
        -- R6.5 49 := law.go:194 load
        refine QL.v (fun w st => by exact r_load1 (v := .int .i64 (b' : Nat)) ty_one2 rfl (by rw [← hb', ← f2]; exact st.c0 (by decide))) rfl rfl rfl ?_
        -- R6.6 50 := law.go:194 call
        refine QL.call (val := .int .i64 ((8 + b' : Nat) : Int)) (fun w st => r_call ty_call48 rfl) rfl rfl rfl (fun w st => lockOf_ok (c := b') (by omega) st) ?_
        -- R6.7 51 := law.go:194 nilCheck
        refine QL.v (fun w st => by exact r_nilCheck rfl) rfl rfl rfl ?_
        -- R6.8 52 := law.go:194 fieldAddr
        refine QL.v (fun w st => by exact r_field ty_fld50_4 rfl) rfl rfl rfl ?_
        -- R6.9 53 := law.go:194 indexAddr
        refine QL.v (fun w st => by exact r_indexA (j := t) ty_ar45 rfl rfl rfl ht16) rfl rfl rfl ?_
        -- R6.10 54 := law.go:194 indexAddr
        refine QL.v (fun w st => by exact r_indexA (j := 8 + b') ty_ar44 rfl rfl rfl (by omega)) rfl rfl rfl ?_
        -- R6.11 55 := law.go:194 load
        refine QL.v (fun w st => by exact r_load1 (v := .int .i64 (s.held t (8 + b') : Nat)) ty_one3 rfl (c_sH (List.mem_cons_of_mem _ hck.B) ht16 (r := 8 + b') (by omega) (by omega) st)) rfl rfl rfl ?_
        -- R6.12 56 := law.go:194 binOp
        refine QL.v (fun w st => by exact r_neq rfl rfl (decide_eq_true (by omega))) rfl rfl rfl ?_
        refine QL.wl hKq fun w st => ?_
        refine WL.fin hK1582 (fun _ _ h => h) ?_
        refine WC.condT rfl rfl ?_
        refine WC.seq fun K1583 hK1583 => ?_
        -- region 7
        refine WC.region ?_
        -- R7.0 57 := law.go:195 fieldAddr
        refine WL.v (by exact r_field ty_fld36_3 rfl) rfl rfl rfl ?_
        -- R7.1 58 := law.go:195 fieldAddr
        refine WL.v (by exact r_field ty_fld34_0 rfl) rfl rfl rfl ?_
        -- R7.2 59 := law.go:195 load
        refine WL.v (by exact r_load1 (v := .int .i64 code) ty_one30 rfl (by rw [← f7]; exact st.c0 (by decide))) rfl rfl rfl ?_
        -- R7.3 60 := law.go:195 binOp
        refine WL.v (by first | exact r_eql rfl rfl (decide_eq_true (by omega)) | exact r_eql rfl rfl (decide_eq_false (by omega)) | exact r_eql rfl rfl rfl) rfl rfl rfl ?_
        -- R7.4 61 := law.go:195 move
        refine WL.v (by first | exact r_move (v := .bool _) rfl | exact r_move rfl) rfl rfl rfl ?_
        -- R7.5 62 := law.go:195 fieldAddr
        refine WL.v (by exact r_field ty_fld36_2 rfl) rfl rfl rfl ?_
        -- R7.6 63 := law.go:195 load
        refine WL.v (by exact r_load1 (v := .pointer (some ⟨bA, 0, none⟩)) ty_one29 rfl (by rw [← f6]; exact st.c0 (by decide))) rfl rfl rfl ?_
        -- R7.7 64 := law.go:195 fieldAddr
        refine WL.v (by exact r_field ty_fld36_1 rfl) rfl rfl rfl ?_
        -- R7.8 65 := law.go:195 load
        refine WL.v (by exact r_load1 (v := .pointer (some ⟨bB, 0, none⟩)) ty_one29 rfl (by rw [← f5]; exact st.c0 (by decide))) rfl rfl rfl ?_
        -- R7.9 66 := law.go:195 call
        refine WL.call (r_call ty_call45 rfl) rfl rfl rfl (stateEq_ok (List.mem_cons_of_mem _ hck.A) (List.mem_cons_of_mem _ hck.B) hck.c.q' hck.c.q st) ?_
        rintro _ w ⟨rfl, st⟩
        -- R7.10 67 := law.go:195 pick
        refine WL.v (by first | exact r_pickT (v := .bool _) rfl rfl | exact r_pickF (v := .bool _) rfl rfl) rfl rfl rfl ?_
        -- R7.11 2 := law.go:195 assign
        refine WL.v (by first | exact r_assign (v := .bool _) rfl | exact r_assign rfl) rfl rfl rfl ?_
        refine WL.fin hK1583 (fun _ _ h => h) ?_
        refine WC.ret1 Tryz.results49 (fun _ _ h => h) rfl ?_
        exact ⟨_, rfl, rfl, st.drop⟩
theorem write_step {o : Kern.Op} (h7 : o.kind = 7) : stepP s o = ((writeP s (nameP o.A 16) (nameP o.B 12) o.X).1, (writeP s (nameP o.A 16) (nameP o.B 12) o.X).2, -1) := by
  unfold stepP; rw [h7]; rfl
theorem write_bad {o : Kern.Op} (h7 : o.kind = 7) (h : cfB s o = false ∨ wiP o.B 12 = false) : (stepP s o).2.1 ≠ 0 ∧ (stepP s o).2.1 ≠ 19 ∧ (stepP s o).1 = s := by
  have hc := callerP_codes (s := s) (t := nameP o.A 16)
  rw [write_step h7]
  dsimp only
  unfold writeP
  by_cases hcl : callerP s (nameP o.A 16) = 0
  · have hF := (cfB_iff (s := s) (o := o) (by omega) (by omega)).2 hcl
    rw [if_neg (fun k => k hcl)]
    rcases h with h | h
    · rw [hF] at h; cases h
    · have h : ¬ (0 ≤ o.B ∧ o.B < 12) := of_decide_eq_false h
      have hn : nameP o.B 12 = -1 := if_pos (by omega)
      rw [if_pos (by omega)]
      exact ⟨show (18 : Int) ≠ 0 by decide, show (18 : Int) ≠ 19 by decide, rfl⟩
  · rw [if_pos hcl]
    dsimp only
    exact ⟨hcl, by omega, rfl⟩
theorem write_good {o : Kern.Op} (h7 : o.kind = 7) (hF : cfB s o = true) (hW : wiP o.B 12 = true) : (s.held o.A.toNat (8 + o.B.toNat) ≠ 16 → (stepP s o).2.1 = 19 ∧ (stepP s o).1 = s) ∧ (s.held o.A.toNat (8 + o.B.toNat) = 16 → (stepP s o).2.1 = 0 ∨ (stepP s o).2.1 = 20) := by
  have hcl := (cfB_iff (s := s) (o := o) (by omega) (by omega)).1 hF
  have hcO := callerP_ok hcl
  have hAn := nameP_in hcO.1
  have hW : 0 ≤ o.B ∧ o.B < 12 := of_decide_eq_true hW
  rw [write_step h7]
  dsimp only
  unfold writeP
  rw [if_neg (fun k => k hcl), nameP_eq hW, if_neg (by omega), ← hAn]
  constructor
  · intro h
    rw [if_pos h]; exact ⟨rfl, rfl⟩
  · intro h
    rw [if_neg (fun k => k h)]
    split
    · exact .inr rfl
    · exact .inl rfl
theorem writes_ok (a : Option Addr) (sb so n c : Nat) (op : Nat → Kern.Op) (hD : gD w) (hS : Scr w sb so n op) (hn63 : n ≤ 140737488355328) (ha : 0 < n → a = some ⟨sb, so, none⟩) :
    Calls Tryz.prog 10 #[.slice a n c] w (Ret fun v w' => v = .bool true ∧ S0 w [] w') := by
  have st : S0 w [] w := St.init w _
  by_cases hn : n ≤ 65536
  · have hC : CheckOK w 49 #[] op n fun _ LI => LI = [] := by
      refine check_pure fun i hi bB bA qv qv' ov l w' hck st' => ?_
      have hK := run_KI op i
      have hI := run_INV op i
      refine writes1_ok (fun h => (codes_of.1 h).1) (fun h7 h => ?_) (fun h7 hF hW hh => ?_) (fun h7 hF hW hh => (write_good h7 hF hW).2 hh) hck st'
      · have h := write_bad h7 h
        exact ⟨h.1, h.2.1, after_id h.2.2 hK.told⟩
      · have h := (write_good h7 hF hW).1 hh
        exact ⟨h.1, after_id h.2 hK.told⟩
    refine enter [.slice a n c] Tryz.func10 rfl Tryz.ntmps10 rfl ?_
    show WC _ _ _ 8 [] [(0, .slice a n c)] _
    refine WC.seq fun K1584 hK1584 => ?_
    -- region 0
    refine WC.region ?_
    -- R0.0 2 := law.go:181 assign
    refine WL.v (by first | exact r_assign (v := .bool _) rfl | exact r_assign rfl) rfl rfl rfl ?_
    refine WL.fin hK1584 (fun _ _ h => h) ?_
    refine WC.seq fun K1585 hK1585 => ?_
    refine WC.seq fun K1586 hK1586 => ?_
    -- region 1
    refine WC.region ?_
    -- R1.0 3 := law.go:182 move
    refine WL.v (by first | exact r_move (v := .slice _ _ _) rfl | exact r_move rfl) rfl rfl rfl ?_
    -- R1.1 4 := law.go:182 call
    refine WL.call (r_call ty_call23 rfl) rfl rfl rfl (zzSmall1_ok a n c st) ?_
    rintro _ w' ⟨he, st⟩
    rw [decide_eq_true hn] at he
    subst he
    -- R1.2 5 := law.go:182 unOp
    refine WL.v (by first | exact r_notT rfl | exact r_notF rfl | exact r_not rfl) rfl rfl rfl ?_
    refine WL.fin hK1586 (fun _ _ h => h) ?_
    refine WC.condF rfl rfl ?_
    refine WC.skipF hK1585 (fun _ _ h => h) ?_
    refine WC.seq fun K1587 hK1587 => ?_
    -- region 3
    refine WC.region ?_
    -- R3.0 6 := law.go:186 move
    refine WL.v (by first | exact r_move (v := .slice _ _ _) rfl | exact r_move rfl) rfl rfl rfl ?_
    -- R3.1 7 := law.go:186 call
    refine WL.call (r_call ty_call24 rfl) rfl rfl rfl (play_ok (LI := []) (l := []) ty_call49 hD hS hn ha hC rfl st) ?_
    rintro _ w'' ⟨rfl, LI', rfl, st⟩
    -- R3.2 2 := law.go:186 assign
    refine WL.v (by first | exact r_assign (v := .bool _) rfl | exact r_assign rfl) rfl rfl rfl ?_
    refine WL.fin hK1587 (fun _ _ h => h) ?_
    refine WC.ret1 Tryz.results10 (fun _ _ h => h) rfl ?_
    exact ⟨_, rfl, rfl, st⟩
  · skip
    refine enter [.slice a n c] Tryz.func10 rfl Tryz.ntmps10 rfl ?_
    show WC _ _ _ 8 [] [(0, .slice a n c)] _
    refine WC.seq fun K1588 hK1588 => ?_
    -- region 0
    refine WC.region ?_
    -- R0.0 2 := law.go:181 assign
    refine WL.v (by first | exact r_assign (v := .bool _) rfl | exact r_assign rfl) rfl rfl rfl ?_
    refine WL.fin hK1588 (fun _ _ h => h) ?_
    refine WC.seq fun K1589 hK1589 => ?_
    refine WC.seq fun K1590 hK1590 => ?_
    -- region 1
    refine WC.region ?_
    -- R1.0 3 := law.go:182 move
    refine WL.v (by first | exact r_move (v := .slice _ _ _) rfl | exact r_move rfl) rfl rfl rfl ?_
    -- R1.1 4 := law.go:182 call
    refine WL.call (r_call ty_call23 rfl) rfl rfl rfl (zzSmall1_ok a n c st) ?_
    rintro _ w' ⟨he, st⟩
    rw [decide_eq_false hn] at he
    subst he
    -- R1.2 5 := law.go:182 unOp
    refine WL.v (by first | exact r_notT rfl | exact r_notF rfl | exact r_not rfl) rfl rfl rfl ?_
    refine WL.fin hK1590 (fun _ _ h => h) ?_
    refine WC.condT rfl rfl ?_
    refine WC.seq fun K1591 hK1591 => ?_
    -- region 2
    refine WC.region ?_
    -- R2.0 2 := law.go:183 assign
    refine WL.v (by first | exact r_assign (v := .bool _) rfl | exact r_assign rfl) rfl rfl rfl ?_
    refine WL.fin hK1591 (fun _ _ h => h) ?_
    refine WC.ret1 Tryz.results10 (fun _ _ h => h) rfl ?_
    exact ⟨_, rfl, rfl, st⟩
end Go.Proofs.Qxb6500834aGreatDoor

