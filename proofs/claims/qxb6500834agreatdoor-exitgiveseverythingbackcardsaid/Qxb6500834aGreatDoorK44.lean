import Derived.Test.Qxb6500834aGreatDoorK42
set_option linter.unusedVariables false
set_option linter.unusedSimpArgs false
set_option maxRecDepth 20000
namespace Go.Proofs.Qxb6500834aGreatDoor
open Go.RowKit Go.E1 Go.Kern
theorem ty_call34 : callT Tryz.prog 34 = true := by kernel_rfl
theorem ty_fld42_0 : fldOff Tryz.prog 42 0 = some 0 := by kernel_rfl
theorem ty_fld42_3 : fldOff Tryz.prog 42 3 = some 3 := by kernel_rfl
variable {w0 : World} {l X : List HI} {w : World} {s s' s0 : KS} {t r N n : Nat} {qv qv' : Nat → Value}

/-! What the laws' questions share: within, caller, told. -/
def wiP (v n : Int) : Bool := decide (0 ≤ v ∧ v < n)
theorem within_ok {v n : Int} (st : S0 w0 l w) :
    Calls Tryz.prog 34 #[.int .i64 v, .int .i64 n] w (Ret fun u w' => u = .bool (wiP v n) ∧ S0 w0 l w') := by
  by_cases h1 : 0 ≤ v
  · skip
    refine enter [.int .i64 v, .int .i64 n] Tryz.func34 rfl Tryz.ntmps34 rfl ?_
    show WC _ _ _ 12 [] [(0, .int .i64 v), (1, .int .i64 n)] _
    refine WC.seq fun K1496 hK1496 => ?_
    -- region 0
    refine WC.region ?_
    -- R0.0 4 := law.go:64 assign
    refine WL.v (by first | exact r_assign (v := .bool _) rfl | exact r_assign rfl) rfl rfl rfl ?_
    refine WL.fin hK1496 (fun _ _ h => h) ?_
    refine WC.seq fun K1497 hK1497 => ?_
    -- region 1
    refine WC.region ?_
    -- R1.0 5 := law.go:64 move
    refine WL.v (by first | exact r_move (v := .int _ _) rfl | exact r_move rfl) rfl rfl rfl ?_
    -- R1.1 6 := law.go:64 binOp
    refine WL.v (by first | exact r_geq rfl rfl (decide_eq_true (by omega)) | exact r_geq rfl rfl (decide_eq_false (by omega)) | exact r_geq rfl rfl rfl) rfl rfl rfl ?_
    -- R1.2 7 := law.go:64 move
    refine WL.v (by first | exact r_move (v := .bool _) rfl | exact r_move rfl) rfl rfl rfl ?_
    -- R1.3 8 := law.go:64 move
    refine WL.v (by first | exact r_move (v := .int _ _) rfl | exact r_move rfl) rfl rfl rfl ?_
    -- R1.4 9 := law.go:64 move
    refine WL.v (by first | exact r_move (v := .int _ _) rfl | exact r_move rfl) rfl rfl rfl ?_
    -- R1.5 10 := law.go:64 binOp
    refine WL.v (by exact r_lss (t := wiP v n) rfl rfl (by unfold wiP; simp [h1])) rfl rfl rfl ?_
    -- R1.6 11 := law.go:64 pick
    refine WL.v (by first | exact r_pickT (v := .bool _) rfl rfl | exact r_pickF (v := .bool _) rfl rfl) rfl rfl rfl ?_
    -- R1.7 4 := law.go:64 assign
    refine WL.v (by first | exact r_assign (v := .bool _) rfl | exact r_assign rfl) rfl rfl rfl ?_
    refine WL.fin hK1497 (fun _ _ h => h) ?_
    refine WC.ret1 Tryz.results34 (fun _ _ h => h) rfl ?_
    exact ⟨_, rfl, rfl, st⟩
  · skip
    refine enter [.int .i64 v, .int .i64 n] Tryz.func34 rfl Tryz.ntmps34 rfl ?_
    show WC _ _ _ 12 [] [(0, .int .i64 v), (1, .int .i64 n)] _
    refine WC.seq fun K1498 hK1498 => ?_
    -- region 0
    refine WC.region ?_
    -- R0.0 4 := law.go:64 assign
    refine WL.v (by first | exact r_assign (v := .bool _) rfl | exact r_assign rfl) rfl rfl rfl ?_
    refine WL.fin hK1498 (fun _ _ h => h) ?_
    refine WC.seq fun K1499 hK1499 => ?_
    -- region 1
    refine WC.region ?_
    -- R1.0 5 := law.go:64 move
    refine WL.v (by first | exact r_move (v := .int _ _) rfl | exact r_move rfl) rfl rfl rfl ?_
    -- R1.1 6 := law.go:64 binOp
    refine WL.v (by first | exact r_geq rfl rfl (decide_eq_true (by omega)) | exact r_geq rfl rfl (decide_eq_false (by omega)) | exact r_geq rfl rfl rfl) rfl rfl rfl ?_
    -- R1.2 7 := law.go:64 move
    refine WL.v (by first | exact r_move (v := .bool _) rfl | exact r_move rfl) rfl rfl rfl ?_
    -- R1.3 8 := law.go:64 move
    refine WL.no rfl rfl ?_
    -- R1.4 9 := law.go:64 move
    refine WL.no rfl rfl ?_
    -- R1.5 10 := law.go:64 binOp
    refine WL.no rfl rfl ?_
    -- R1.6 11 := law.go:64 pick
    refine WL.v (by first | exact r_pickT (v := .bool _) rfl rfl | exact r_pickF (v := .bool _) rfl rfl) rfl rfl rfl ?_
    -- R1.7 4 := law.go:64 assign
    refine WL.v (by first | exact r_assign (v := .bool _) rfl | exact r_assign rfl) rfl rfl rfl ?_
    refine WL.fin hK1499 (fun _ _ h => h) ?_
    refine WC.ret1 Tryz.results34 (fun _ _ h => h) rfl ?_
    exact ⟨_, rfl, congrArg Value.bool (show false = wiP v n by unfold wiP; rw [decide_eq_false (fun h => h1 h.1)]), st⟩
/-- The task that makes the call of a step, and whether it can. -/
abbrev callQ (o : Kern.Op) : Prop := 2 ≤ o.kind ∧ o.kind ≤ 9 ∧ 0 ≤ o.A ∧ o.A < 16
def cfT (o : Kern.Op) : Int := if callQ o then o.A else -1
def cfB (s : KS) (o : Kern.Op) : Bool := if callQ o then (s.tk o.A.toNat).live && !(s.tk o.A.toNat).waiting else false
set_option maxHeartbeats 4000000 in
theorem callerL_ok {o : Kern.Op} {bB bA : Nat} {code task : Int} {ov : Value} (hB : sI bB s qv ∈ l) (hov : ov.oneCell' = true) (st : S0 w0 l w) :
    Calls Tryz.prog 33 #[.agg (stepL o bB bA code task ov).toArray] w (Ret fun u w' => u = .tuple #[.int .i64 (cfT o), .bool (cfB s o)] ∧ S0 w0 l w') := by
  obtain ⟨fs, hfs⟩ : ∃ fs : Nat → Value, fs = nth (stepL o bB bA code task ov) := ⟨_, rfl⟩
  have f0 : fs 0 = .int .u8 (o.kind : Nat) := by rw [hfs]; rfl
  have f1 : fs 1 = .int .i64 o.A := by rw [hfs]; rfl
  have f5 : fs 5 = .pointer (some ⟨bB, 0, none⟩) := by rw [hfs]; rfl
  by_cases h2 : o.kind < 2
  · have hn : ¬ callQ o := fun h => by unfold callQ at h; omega
    refine enter [.agg (stepL o bB bA code task ov).toArray] Tryz.func33 rfl Tryz.ntmps33 rfl ?_
    show WC _ _ _ 45 [] [(0, .agg (stepL o bB bA code task ov).toArray)] _
    refine WC.seq fun K1500 hK1500 => ?_
    -- region 0
    refine WC.region ?_
    -- R0.0 1 := law.go:68 box
    refine WL.box (m := 10) (vs := stepL o bB bA code task ov) st rfl rfl rfl rfl rfl rfl ?_
    intro b1 w st
    have st : S0 w0 ((b1, Row 36 10 fs) :: l) w := by rw [hfs]; exact st
    -- R0.1 2 := law.go:68 assign
    refine WL.v (by first | exact r_assign (v := .int _ _) rfl | exact r_assign rfl) rfl rfl rfl ?_
    -- R0.2 3 := law.go:68 assign
    refine WL.v (by first | exact r_assign (v := .bool _) rfl | exact r_assign rfl) rfl rfl rfl ?_
    refine WL.fin hK1500 (fun _ _ h => h) ?_
    refine WC.seq fun K1501 hK1501 => ?_
    refine WC.seq fun K1502 hK1502 => ?_
    -- region 1
    refine WC.region ?_
    -- R1.0 5 := law.go:69 fieldAddr
    refine WL.v (by exact r_field ty_fld36_0 rfl) rfl rfl rfl ?_
    -- R1.1 6 := law.go:69 fieldAddr
    refine WL.v (by exact r_field ty_fld28_0 rfl) rfl rfl rfl ?_
    -- R1.2 7 := law.go:69 load
    refine WL.v (by exact r_load1 (v := .int .u8 (o.kind : Nat)) ty_one25 rfl (by rw [← f0]; exact st.c0 (by decide))) rfl rfl rfl ?_
    -- R1.3 8 := law.go:69 binOp
    refine WL.v (by first | exact r_lss rfl rfl (decide_eq_true (by omega)) | exact r_lss rfl rfl (decide_eq_false (by omega)) | exact r_lss rfl rfl rfl) rfl rfl rfl ?_
    -- R1.4 9 := law.go:69 move
    refine WL.v (by first | exact r_move (v := .bool _) rfl | exact r_move rfl) rfl rfl rfl ?_
    -- R1.5 10 := law.go:69 fieldAddr
    refine WL.no rfl rfl ?_
    -- R1.6 11 := law.go:69 fieldAddr
    refine WL.no rfl rfl ?_
    -- R1.7 12 := law.go:69 load
    refine WL.no rfl rfl ?_
    -- R1.8 13 := law.go:69 binOp
    refine WL.no rfl rfl ?_
    -- R1.9 14 := law.go:69 pick
    refine WL.v (by first | exact r_pickT (v := .bool _) rfl rfl | exact r_pickF (v := .bool _) rfl rfl) rfl rfl rfl ?_
    -- R1.10 15 := law.go:69 move
    refine WL.v (by first | exact r_move (v := .bool _) rfl | exact r_move rfl) rfl rfl rfl ?_
    -- R1.11 16 := law.go:69 fieldAddr
    refine WL.no rfl rfl ?_
    -- R1.12 17 := law.go:69 fieldAddr
    refine WL.no rfl rfl ?_
    -- R1.13 18 := law.go:69 load
    refine WL.no rfl rfl ?_
    -- R1.14 19 := law.go:69 call
    refine WL.no rfl rfl ?_
    -- R1.15 20 := law.go:69 unOp
    refine WL.no rfl rfl ?_
    -- R1.16 21 := law.go:69 pick
    refine WL.v (by first | exact r_pickT (v := .bool _) rfl rfl | exact r_pickF (v := .bool _) rfl rfl) rfl rfl rfl ?_
    refine WL.fin hK1502 (fun _ _ h => h) ?_
    refine WC.condT rfl rfl ?_
    refine WC.seq fun K1503 hK1503 => ?_
    -- region 2
    refine WC.region ?_
    -- R2.0 2 := law.go:70 assign
    refine WL.v (by first | exact r_assign (v := .int _ _) rfl | exact r_assign rfl) rfl rfl rfl ?_
    -- R2.1 3 := law.go:70 assign
    refine WL.v (by first | exact r_assign (v := .bool _) rfl | exact r_assign rfl) rfl rfl rfl ?_
    refine WL.fin hK1503 (fun _ _ h => h) ?_
    refine WC.ret2 Tryz.results33 (fun _ _ h => h) rfl ?_
    exact ⟨_, rfl, by unfold cfT cfB; rw [if_neg hn, if_neg hn]; rfl, st.drop⟩
  by_cases h9 : 9 < o.kind
  · have hn : ¬ callQ o := fun h => by unfold callQ at h; omega
    refine enter [.agg (stepL o bB bA code task ov).toArray] Tryz.func33 rfl Tryz.ntmps33 rfl ?_
    show WC _ _ _ 45 [] [(0, .agg (stepL o bB bA code task ov).toArray)] _
    refine WC.seq fun K1504 hK1504 => ?_
    -- region 0
    refine WC.region ?_
    -- R0.0 1 := law.go:68 box
    refine WL.box (m := 10) (vs := stepL o bB bA code task ov) st rfl rfl rfl rfl rfl rfl ?_
    intro b1 w st
    have st : S0 w0 ((b1, Row 36 10 fs) :: l) w := by rw [hfs]; exact st
    -- R0.1 2 := law.go:68 assign
    refine WL.v (by first | exact r_assign (v := .int _ _) rfl | exact r_assign rfl) rfl rfl rfl ?_
    -- R0.2 3 := law.go:68 assign
    refine WL.v (by first | exact r_assign (v := .bool _) rfl | exact r_assign rfl) rfl rfl rfl ?_
    refine WL.fin hK1504 (fun _ _ h => h) ?_
    refine WC.seq fun K1505 hK1505 => ?_
    refine WC.seq fun K1506 hK1506 => ?_
    -- region 1
    refine WC.region ?_
    -- R1.0 5 := law.go:69 fieldAddr
    refine WL.v (by exact r_field ty_fld36_0 rfl) rfl rfl rfl ?_
    -- R1.1 6 := law.go:69 fieldAddr
    refine WL.v (by exact r_field ty_fld28_0 rfl) rfl rfl rfl ?_
    -- R1.2 7 := law.go:69 load
    refine WL.v (by exact r_load1 (v := .int .u8 (o.kind : Nat)) ty_one25 rfl (by rw [← f0]; exact st.c0 (by decide))) rfl rfl rfl ?_
    -- R1.3 8 := law.go:69 binOp
    refine WL.v (by first | exact r_lss rfl rfl (decide_eq_true (by omega)) | exact r_lss rfl rfl (decide_eq_false (by omega)) | exact r_lss rfl rfl rfl) rfl rfl rfl ?_
    -- R1.4 9 := law.go:69 move
    refine WL.v (by first | exact r_move (v := .bool _) rfl | exact r_move rfl) rfl rfl rfl ?_
    -- R1.5 10 := law.go:69 fieldAddr
    refine WL.v (by exact r_field ty_fld36_0 rfl) rfl rfl rfl ?_
    -- R1.6 11 := law.go:69 fieldAddr
    refine WL.v (by exact r_field ty_fld28_0 rfl) rfl rfl rfl ?_
    -- R1.7 12 := law.go:69 load
    refine WL.v (by exact r_load1 (v := .int .u8 (o.kind : Nat)) ty_one25 rfl (by rw [← f0]; exact st.c0 (by decide))) rfl rfl rfl ?_
    -- R1.8 13 := law.go:69 binOp
    refine WL.v (by first | exact r_gtr rfl rfl (decide_eq_true (by omega)) | exact r_gtr rfl rfl (decide_eq_false (by omega)) | exact r_gtr rfl rfl rfl) rfl rfl rfl ?_
    -- R1.9 14 := law.go:69 pick
    refine WL.v (by first | exact r_pickT (v := .bool _) rfl rfl | exact r_pickF (v := .bool _) rfl rfl) rfl rfl rfl ?_
    -- R1.10 15 := law.go:69 move
    refine WL.v (by first | exact r_move (v := .bool _) rfl | exact r_move rfl) rfl rfl rfl ?_
    -- R1.11 16 := law.go:69 fieldAddr
    refine WL.no rfl rfl ?_
    -- R1.12 17 := law.go:69 fieldAddr
    refine WL.no rfl rfl ?_
    -- R1.13 18 := law.go:69 load
    refine WL.no rfl rfl ?_
    -- R1.14 19 := law.go:69 call
    refine WL.no rfl rfl ?_
    -- R1.15 20 := law.go:69 unOp
    refine WL.no rfl rfl ?_
    -- R1.16 21 := law.go:69 pick
    refine WL.v (by first | exact r_pickT (v := .bool _) rfl rfl | exact r_pickF (v := .bool _) rfl rfl) rfl rfl rfl ?_
    refine WL.fin hK1506 (fun _ _ h => h) ?_
    refine WC.condT rfl rfl ?_
    refine WC.seq fun K1507 hK1507 => ?_
    -- region 2
    refine WC.region ?_
    -- R2.0 2 := law.go:70 assign
    refine WL.v (by first | exact r_assign (v := .int _ _) rfl | exact r_assign rfl) rfl rfl rfl ?_
    -- R2.1 3 := law.go:70 assign
    refine WL.v (by first | exact r_assign (v := .bool _) rfl | exact r_assign rfl) rfl rfl rfl ?_
    refine WL.fin hK1507 (fun _ _ h => h) ?_
    refine WC.ret2 Tryz.results33 (fun _ _ h => h) rfl ?_
    exact ⟨_, rfl, by unfold cfT cfB; rw [if_neg hn, if_neg hn]; rfl, st.drop⟩
  by_cases hA : 0 ≤ o.A ∧ o.A < 16
  rotate_left
  · have hn : ¬ callQ o := fun h => hA ⟨h.2.2.1, h.2.2.2⟩
    refine enter [.agg (stepL o bB bA code task ov).toArray] Tryz.func33 rfl Tryz.ntmps33 rfl ?_
    show WC _ _ _ 45 [] [(0, .agg (stepL o bB bA code task ov).toArray)] _
    refine WC.seq fun K1508 hK1508 => ?_
    -- region 0
    refine WC.region ?_
    -- R0.0 1 := law.go:68 box
    refine WL.box (m := 10) (vs := stepL o bB bA code task ov) st rfl rfl rfl rfl rfl rfl ?_
    intro b1 w st
    have st : S0 w0 ((b1, Row 36 10 fs) :: l) w := by rw [hfs]; exact st
    -- R0.1 2 := law.go:68 assign
    refine WL.v (by first | exact r_assign (v := .int _ _) rfl | exact r_assign rfl) rfl rfl rfl ?_
    -- R0.2 3 := law.go:68 assign
    refine WL.v (by first | exact r_assign (v := .bool _) rfl | exact r_assign rfl) rfl rfl rfl ?_
    refine WL.fin hK1508 (fun _ _ h => h) ?_
    refine WC.seq fun K1509 hK1509 => ?_
    refine WC.seq fun K1510 hK1510 => ?_
    -- region 1
    refine WC.region ?_
    -- R1.0 5 := law.go:69 fieldAddr
    refine WL.v (by exact r_field ty_fld36_0 rfl) rfl rfl rfl ?_
    -- R1.1 6 := law.go:69 fieldAddr
    refine WL.v (by exact r_field ty_fld28_0 rfl) rfl rfl rfl ?_
    -- R1.2 7 := law.go:69 load
    refine WL.v (by exact r_load1 (v := .int .u8 (o.kind : Nat)) ty_one25 rfl (by rw [← f0]; exact st.c0 (by decide))) rfl rfl rfl ?_
    -- R1.3 8 := law.go:69 binOp
    refine WL.v (by first | exact r_lss rfl rfl (decide_eq_true (by omega)) | exact r_lss rfl rfl (decide_eq_false (by omega)) | exact r_lss rfl rfl rfl) rfl rfl rfl ?_
    -- R1.4 9 := law.go:69 move
    refine WL.v (by first | exact r_move (v := .bool _) rfl | exact r_move rfl) rfl rfl rfl ?_
    -- R1.5 10 := law.go:69 fieldAddr
    refine WL.v (by exact r_field ty_fld36_0 rfl) rfl rfl rfl ?_
    -- R1.6 11 := law.go:69 fieldAddr
    refine WL.v (by exact r_field ty_fld28_0 rfl) rfl rfl rfl ?_
    -- R1.7 12 := law.go:69 load
    refine WL.v (by exact r_load1 (v := .int .u8 (o.kind : Nat)) ty_one25 rfl (by rw [← f0]; exact st.c0 (by decide))) rfl rfl rfl ?_
    -- R1.8 13 := law.go:69 binOp
    refine WL.v (by first | exact r_gtr rfl rfl (decide_eq_true (by omega)) | exact r_gtr rfl rfl (decide_eq_false (by omega)) | exact r_gtr rfl rfl rfl) rfl rfl rfl ?_
    -- R1.9 14 := law.go:69 pick
    refine WL.v (by first | exact r_pickT (v := .bool _) rfl rfl | exact r_pickF (v := .bool _) rfl rfl) rfl rfl rfl ?_
    -- R1.10 15 := law.go:69 move
    refine WL.v (by first | exact r_move (v := .bool _) rfl | exact r_move rfl) rfl rfl rfl ?_
    -- R1.11 16 := law.go:69 fieldAddr
    refine WL.v (by exact r_field ty_fld36_0 rfl) rfl rfl rfl ?_
    -- R1.12 17 := law.go:69 fieldAddr
    refine WL.v (by exact r_field ty_fld28_1 rfl) rfl rfl rfl ?_
    -- R1.13 18 := law.go:69 load
    refine WL.v (by exact r_load1 (v := .int .i64 o.A) ty_one2 rfl (by rw [← f1]; exact st.c0 (by decide))) rfl rfl rfl ?_
    -- R1.14 19 := law.go:69 call
    refine WL.call (r_call ty_call34 rfl) rfl rfl rfl (within_ok st) ?_
    rintro _ w ⟨rfl, st⟩
    -- R1.15 20 := law.go:69 unOp
    refine WL.v (by exact r_not (t := false) (congrArg Value.bool (decide_eq_false hA))) rfl rfl rfl ?_
    -- R1.16 21 := law.go:69 pick
    refine WL.v (by first | exact r_pickT (v := .bool _) rfl rfl | exact r_pickF (v := .bool _) rfl rfl) rfl rfl rfl ?_
    refine WL.fin hK1510 (fun _ _ h => h) ?_
    refine WC.condT rfl rfl ?_
    refine WC.seq fun K1511 hK1511 => ?_
    -- region 2
    refine WC.region ?_
    -- R2.0 2 := law.go:70 assign
    refine WL.v (by first | exact r_assign (v := .int _ _) rfl | exact r_assign rfl) rfl rfl rfl ?_
    -- R2.1 3 := law.go:70 assign
    refine WL.v (by first | exact r_assign (v := .bool _) rfl | exact r_assign rfl) rfl rfl rfl ?_
    refine WL.fin hK1511 (fun _ _ h => h) ?_
    refine WC.ret2 Tryz.results33 (fun _ _ h => h) rfl ?_
    exact ⟨_, rfl, by unfold cfT cfB; rw [if_neg hn, if_neg hn]; rfl, st.drop⟩
  have hq : callQ o := ⟨by omega, by omega, hA.1, hA.2⟩
  obtain ⟨t, ht⟩ : ∃ t : Nat, o.A = t := ⟨o.A.toNat, by omega⟩
  have ht16 : t < 16 := by omega
  have e1 : cfT o = o.A := if_pos hq
  have e2 : cfB s o = ((s.tk t).live && !(s.tk t).waiting) := by unfold cfB; rw [if_pos hq, ht]; rfl
  cases hl : (s.tk t).live with
  | true =>
    refine enter [.agg (stepL o bB bA code task ov).toArray] Tryz.func33 rfl Tryz.ntmps33 rfl ?_
    show WC _ _ _ 45 [] [(0, .agg (stepL o bB bA code task ov).toArray)] _
    refine WC.seq fun K1512 hK1512 => ?_
    -- region 0
    refine WC.region ?_
    -- R0.0 1 := law.go:68 box
    refine WL.box (m := 10) (vs := stepL o bB bA code task ov) st rfl rfl rfl rfl rfl rfl ?_
    intro b1 w st
    have st : S0 w0 ((b1, Row 36 10 fs) :: l) w := by rw [hfs]; exact st
    -- R0.1 2 := law.go:68 assign
    refine WL.v (by first | exact r_assign (v := .int _ _) rfl | exact r_assign rfl) rfl rfl rfl ?_
    -- R0.2 3 := law.go:68 assign
    refine WL.v (by first | exact r_assign (v := .bool _) rfl | exact r_assign rfl) rfl rfl rfl ?_
    refine WL.fin hK1512 (fun _ _ h => h) ?_
    refine WC.seq fun K1513 hK1513 => ?_
    refine WC.seq fun K1514 hK1514 => ?_
    -- region 1
    refine WC.region ?_
    -- R1.0 5 := law.go:69 fieldAddr
    refine WL.v (by exact r_field ty_fld36_0 rfl) rfl rfl rfl ?_
    -- R1.1 6 := law.go:69 fieldAddr
    refine WL.v (by exact r_field ty_fld28_0 rfl) rfl rfl rfl ?_
    -- R1.2 7 := law.go:69 load
    refine WL.v (by exact r_load1 (v := .int .u8 (o.kind : Nat)) ty_one25 rfl (by rw [← f0]; exact st.c0 (by decide))) rfl rfl rfl ?_
    -- R1.3 8 := law.go:69 binOp
    refine WL.v (by first | exact r_lss rfl rfl (decide_eq_true (by omega)) | exact r_lss rfl rfl (decide_eq_false (by omega)) | exact r_lss rfl rfl rfl) rfl rfl rfl ?_
    -- R1.4 9 := law.go:69 move
    refine WL.v (by first | exact r_move (v := .bool _) rfl | exact r_move rfl) rfl rfl rfl ?_
    -- R1.5 10 := law.go:69 fieldAddr
    refine WL.v (by exact r_field ty_fld36_0 rfl) rfl rfl rfl ?_
    -- R1.6 11 := law.go:69 fieldAddr
    refine WL.v (by exact r_field ty_fld28_0 rfl) rfl rfl rfl ?_
    -- R1.7 12 := law.go:69 load
    refine WL.v (by exact r_load1 (v := .int .u8 (o.kind : Nat)) ty_one25 rfl (by rw [← f0]; exact st.c0 (by decide))) rfl rfl rfl ?_
    -- R1.8 13 := law.go:69 binOp
    refine WL.v (by first | exact r_gtr rfl rfl (decide_eq_true (by omega)) | exact r_gtr rfl rfl (decide_eq_false (by omega)) | exact r_gtr rfl rfl rfl) rfl rfl rfl ?_
    -- R1.9 14 := law.go:69 pick
    refine WL.v (by first | exact r_pickT (v := .bool _) rfl rfl | exact r_pickF (v := .bool _) rfl rfl) rfl rfl rfl ?_
    -- R1.10 15 := law.go:69 move
    refine WL.v (by first | exact r_move (v := .bool _) rfl | exact r_move rfl) rfl rfl rfl ?_
    -- R1.11 16 := law.go:69 fieldAddr
    refine WL.v (by exact r_field ty_fld36_0 rfl) rfl rfl rfl ?_
    -- R1.12 17 := law.go:69 fieldAddr
    refine WL.v (by exact r_field ty_fld28_1 rfl) rfl rfl rfl ?_
    -- R1.13 18 := law.go:69 load
    refine WL.v (by exact r_load1 (v := .int .i64 o.A) ty_one2 rfl (by rw [← f1]; exact st.c0 (by decide))) rfl rfl rfl ?_
    -- R1.14 19 := law.go:69 call
    refine WL.call (r_call ty_call34 rfl) rfl rfl rfl (within_ok st) ?_
    rintro _ w ⟨rfl, st⟩
    -- R1.15 20 := law.go:69 unOp
    refine WL.v (by exact r_not (t := true) (congrArg Value.bool (decide_eq_true hA))) rfl rfl rfl ?_
    -- R1.16 21 := law.go:69 pick
    refine WL.v (by first | exact r_pickT (v := .bool _) rfl rfl | exact r_pickF (v := .bool _) rfl rfl) rfl rfl rfl ?_
    refine WL.fin hK1514 (fun _ _ h => h) ?_
    refine WC.condF rfl rfl ?_
    refine WC.skipF hK1513 (fun _ _ h => h) ?_
    refine WC.seq fun K1515 hK1515 => ?_
    -- region 3
    refine WC.region ?_
    -- R3.0 22 := law.go:72 fieldAddr
    refine WL.v (by exact r_field ty_fld36_0 rfl) rfl rfl rfl ?_
    -- R3.1 23 := law.go:72 fieldAddr
    refine WL.v (by exact r_field ty_fld28_1 rfl) rfl rfl rfl ?_
    -- R3.2 24 := law.go:72 load
    refine WL.v (by exact r_load1 (v := .int .i64 o.A) ty_one2 rfl (by rw [← f1]; exact st.c0 (by decide))) rfl rfl rfl ?_
    -- R3.3 4 := law.go:72 assign
    refine WL.v (by first | exact r_assign (v := .int _ _) rfl | exact r_assign rfl) rfl rfl rfl ?_
    refine WL.fin hK1515 (fun _ _ h => h) ?_
    refine WC.seq fun K1516 hK1516 => ?_
    -- region 4 (draws)
    refine WC.quietS st ty_mixed (by kernel_rfl) fun Kq hKq => ?_
    -- R4.0 25 := law.go:73 move
    refine QL.v (fun w st => by first | exact r_move (v := .int _ _) rfl | exact r_move rfl) rfl rfl rfl ?_
    -- R4.1 26 := law.go:73 fieldAddr
    refine QL.v (fun w st => by exact r_field ty_fld36_1 rfl) rfl rfl rfl ?_
    -- R4.2 27 := law.go:73 load
    refine QL.v (fun w st => by exact r_load1 (v := .pointer (some ⟨bB, 0, none⟩)) ty_one29 rfl (by rw [← f5]; exact st.c0 (by decide))) rfl rfl rfl ?_
    -- R4.3 28 := law.go:73 move
    refine QL.v (fun w st => by first | exact r_move (v := .int _ _) rfl | exact r_move rfl) rfl rfl rfl ?_
    -- R4.4 29 := law.go:73 nilCheck
    refine QL.v (fun w st => by exact r_nilCheck rfl) rfl rfl rfl ?_
    -- R4.5 30 := law.go:73 fieldAddr
    refine QL.v (fun w st => by exact r_field ty_fld50_3 rfl) rfl rfl rfl ?_
    -- R4.6 31 := law.go:73 indexAddr
    refine QL.v (fun w st => by exact r_indexA (j := t) ty_ar43 rfl (congrArg (Value.int .i64) ht) rfl ht16) rfl rfl rfl ?_
    -- R4.7 32 := law.go:73 fieldAddr
    refine QL.v (fun w st => by exact r_field ty_fld42_0 rfl) rfl rfl rfl ?_
    -- R4.8 33 := law.go:73 load
    refine QL.v (fun w st => by exact r_load1 (v := .bool true) ty_one4 rfl (by rw [← hl]; exact c_sT (List.mem_cons_of_mem _ hB) ht16 (j := 0) (by decide) (by omega) st)) rfl rfl rfl ?_
    -- R4.9 34 := law.go:73 move
    refine QL.v (fun w st => by first | exact r_move (v := .bool _) rfl | exact r_move rfl) rfl rfl rfl ?_
    -- R4.10 35 := law.go:73 fieldAddr
    refine QL.v (fun w st => by exact r_field ty_fld36_1 rfl) rfl rfl rfl ?_
    -- R4.11 36 := law.go:73 load
    refine QL.v (fun w st => by exact r_load1 (v := .pointer (some ⟨bB, 0, none⟩)) ty_one29 rfl (by rw [← f5]; exact st.c0 (by decide))) rfl rfl rfl ?_
    -- R4.12 37 := law.go:73 move
    refine QL.v (fun w st => by first | exact r_move (v := .int _ _) rfl | exact r_move rfl) rfl rfl rfl ?_
    -- R4.13 38 := law.go:73 nilCheck
    refine QL.v (fun w st => by exact r_nilCheck rfl) rfl rfl rfl ?_
    -- R4.14 39 := law.go:73 fieldAddr
    refine QL.v (fun w st => by exact r_field ty_fld50_3 rfl) rfl rfl rfl ?_
    -- R4.15 40 := law.go:73 indexAddr
    refine QL.v (fun w st => by exact r_indexA (j := t) ty_ar43 rfl (congrArg (Value.int .i64) ht) rfl ht16) rfl rfl rfl ?_
    -- R4.16 41 := law.go:73 fieldAddr
    refine QL.v (fun w st => by exact r_field ty_fld42_3 rfl) rfl rfl rfl ?_
    -- R4.17 42 := law.go:73 load
    refine QL.v (fun w st => by exact r_load1 (v := .bool (s.tk t).waiting) ty_one4 rfl (c_sT (List.mem_cons_of_mem _ hB) ht16 (j := 3) (by decide) (by omega) st)) rfl rfl rfl ?_
    -- R4.18 43 := law.go:73 unOp
    refine QL.v (fun w st => by first | exact r_notT rfl | exact r_notF rfl | exact r_not rfl) rfl rfl rfl ?_
    -- R4.19 44 := law.go:73 pick
    refine QL.v (fun w st => by first | exact r_pickT (v := .bool _) rfl rfl | exact r_pickF (v := .bool _) rfl rfl) rfl rfl rfl ?_
    -- R4.20 2 := law.go:73 assign
    refine QL.v (fun w st => by first | exact r_assign (v := .int _ _) rfl | exact r_assign rfl) rfl rfl rfl ?_
    -- R4.21 3 := law.go:73 assign
    refine QL.v (fun w st => by first | exact r_assign (v := .bool _) rfl | exact r_assign rfl) rfl rfl rfl ?_
    refine QL.wl hKq fun w st => ?_
    refine WL.fin hK1516 (fun _ _ h => h) ?_
    refine WC.ret2 Tryz.results33 (fun _ _ h => h) rfl ?_
    exact ⟨_, rfl, by rw [e1, e2, hl]; rfl, st.drop⟩
  | false =>
    refine enter [.agg (stepL o bB bA code task ov).toArray] Tryz.func33 rfl Tryz.ntmps33 rfl ?_
    show WC _ _ _ 45 [] [(0, .agg (stepL o bB bA code task ov).toArray)] _
    refine WC.seq fun K1517 hK1517 => ?_
    -- region 0
    refine WC.region ?_
    -- R0.0 1 := law.go:68 box
    refine WL.box (m := 10) (vs := stepL o bB bA code task ov) st rfl rfl rfl rfl rfl rfl ?_
    intro b1 w st
    have st : S0 w0 ((b1, Row 36 10 fs) :: l) w := by rw [hfs]; exact st
    -- R0.1 2 := law.go:68 assign
    refine WL.v (by first | exact r_assign (v := .int _ _) rfl | exact r_assign rfl) rfl rfl rfl ?_
    -- R0.2 3 := law.go:68 assign
    refine WL.v (by first | exact r_assign (v := .bool _) rfl | exact r_assign rfl) rfl rfl rfl ?_
    refine WL.fin hK1517 (fun _ _ h => h) ?_
    refine WC.seq fun K1518 hK1518 => ?_
    refine WC.seq fun K1519 hK1519 => ?_
    -- region 1
    refine WC.region ?_
    -- R1.0 5 := law.go:69 fieldAddr
    refine WL.v (by exact r_field ty_fld36_0 rfl) rfl rfl rfl ?_
    -- R1.1 6 := law.go:69 fieldAddr
    refine WL.v (by exact r_field ty_fld28_0 rfl) rfl rfl rfl ?_
    -- R1.2 7 := law.go:69 load
    refine WL.v (by exact r_load1 (v := .int .u8 (o.kind : Nat)) ty_one25 rfl (by rw [← f0]; exact st.c0 (by decide))) rfl rfl rfl ?_
    -- R1.3 8 := law.go:69 binOp
    refine WL.v (by first | exact r_lss rfl rfl (decide_eq_true (by omega)) | exact r_lss rfl rfl (decide_eq_false (by omega)) | exact r_lss rfl rfl rfl) rfl rfl rfl ?_
    -- R1.4 9 := law.go:69 move
    refine WL.v (by first | exact r_move (v := .bool _) rfl | exact r_move rfl) rfl rfl rfl ?_
    -- R1.5 10 := law.go:69 fieldAddr
    refine WL.v (by exact r_field ty_fld36_0 rfl) rfl rfl rfl ?_
    -- R1.6 11 := law.go:69 fieldAddr
    refine WL.v (by exact r_field ty_fld28_0 rfl) rfl rfl rfl ?_
    -- R1.7 12 := law.go:69 load
    refine WL.v (by exact r_load1 (v := .int .u8 (o.kind : Nat)) ty_one25 rfl (by rw [← f0]; exact st.c0 (by decide))) rfl rfl rfl ?_
    -- R1.8 13 := law.go:69 binOp
    refine WL.v (by first | exact r_gtr rfl rfl (decide_eq_true (by omega)) | exact r_gtr rfl rfl (decide_eq_false (by omega)) | exact r_gtr rfl rfl rfl) rfl rfl rfl ?_
    -- R1.9 14 := law.go:69 pick
    refine WL.v (by first | exact r_pickT (v := .bool _) rfl rfl | exact r_pickF (v := .bool _) rfl rfl) rfl rfl rfl ?_
    -- R1.10 15 := law.go:69 move
    refine WL.v (by first | exact r_move (v := .bool _) rfl | exact r_move rfl) rfl rfl rfl ?_
    -- R1.11 16 := law.go:69 fieldAddr
    refine WL.v (by exact r_field ty_fld36_0 rfl) rfl rfl rfl ?_
    -- R1.12 17 := law.go:69 fieldAddr
    refine WL.v (by exact r_field ty_fld28_1 rfl) rfl rfl rfl ?_
    -- R1.13 18 := law.go:69 load
    refine WL.v (by exact r_load1 (v := .int .i64 o.A) ty_one2 rfl (by rw [← f1]; exact st.c0 (by decide))) rfl rfl rfl ?_
    -- R1.14 19 := law.go:69 call
    refine WL.call (r_call ty_call34 rfl) rfl rfl rfl (within_ok st) ?_
    rintro _ w ⟨rfl, st⟩
    -- R1.15 20 := law.go:69 unOp
    refine WL.v (by exact r_not (t := true) (congrArg Value.bool (decide_eq_true hA))) rfl rfl rfl ?_
    -- R1.16 21 := law.go:69 pick
    refine WL.v (by first | exact r_pickT (v := .bool _) rfl rfl | exact r_pickF (v := .bool _) rfl rfl) rfl rfl rfl ?_
    refine WL.fin hK1519 (fun _ _ h => h) ?_
    refine WC.condF rfl rfl ?_
    refine WC.skipF hK1518 (fun _ _ h => h) ?_
    refine WC.seq fun K1520 hK1520 => ?_
    -- region 3
    refine WC.region ?_
    -- R3.0 22 := law.go:72 fieldAddr
    refine WL.v (by exact r_field ty_fld36_0 rfl) rfl rfl rfl ?_
    -- R3.1 23 := law.go:72 fieldAddr
    refine WL.v (by exact r_field ty_fld28_1 rfl) rfl rfl rfl ?_
    -- R3.2 24 := law.go:72 load
    refine WL.v (by exact r_load1 (v := .int .i64 o.A) ty_one2 rfl (by rw [← f1]; exact st.c0 (by decide))) rfl rfl rfl ?_
    -- R3.3 4 := law.go:72 assign
    refine WL.v (by first | exact r_assign (v := .int _ _) rfl | exact r_assign rfl) rfl rfl rfl ?_
    refine WL.fin hK1520 (fun _ _ h => h) ?_
    refine WC.seq fun K1521 hK1521 => ?_
    -- region 4 (draws)
    refine WC.quietS st ty_mixed (by kernel_rfl) fun Kq hKq => ?_
    -- R4.0 25 := law.go:73 move
    refine QL.v (fun w st => by first | exact r_move (v := .int _ _) rfl | exact r_move rfl) rfl rfl rfl ?_
    -- R4.1 26 := law.go:73 fieldAddr
    refine QL.v (fun w st => by exact r_field ty_fld36_1 rfl) rfl rfl rfl ?_
    -- R4.2 27 := law.go:73 load
    refine QL.v (fun w st => by exact r_load1 (v := .pointer (some ⟨bB, 0, none⟩)) ty_one29 rfl (by rw [← f5]; exact st.c0 (by decide))) rfl rfl rfl ?_
    -- R4.3 28 := law.go:73 move
    refine QL.v (fun w st => by first | exact r_move (v := .int _ _) rfl | exact r_move rfl) rfl rfl rfl ?_
    -- R4.4 29 := law.go:73 nilCheck
    refine QL.v (fun w st => by exact r_nilCheck rfl) rfl rfl rfl ?_
    -- R4.5 30 := law.go:73 fieldAddr
    refine QL.v (fun w st => by exact r_field ty_fld50_3 rfl) rfl rfl rfl ?_
    -- R4.6 31 := law.go:73 indexAddr
    refine QL.v (fun w st => by exact r_indexA (j := t) ty_ar43 rfl (congrArg (Value.int .i64) ht) rfl ht16) rfl rfl rfl ?_
    -- R4.7 32 := law.go:73 fieldAddr
    refine QL.v (fun w st => by exact r_field ty_fld42_0 rfl) rfl rfl rfl ?_
    -- R4.8 33 := law.go:73 load
    refine QL.v (fun w st => by exact r_load1 (v := .bool false) ty_one4 rfl (by rw [← hl]; exact c_sT (List.mem_cons_of_mem _ hB) ht16 (j := 0) (by decide) (by omega) st)) rfl rfl rfl ?_
    -- R4.9 34 := law.go:73 move
    refine QL.v (fun w st => by first | exact r_move (v := .bool _) rfl | exact r_move rfl) rfl rfl rfl ?_
    -- R4.10 35 := law.go:73 fieldAddr
    refine QL.no rfl rfl ?_
    -- R4.11 36 := law.go:73 load
    refine QL.no rfl rfl ?_
    -- R4.12 37 := law.go:73 move
    refine QL.no rfl rfl ?_
    -- R4.13 38 := law.go:73 nilCheck
    refine QL.no rfl rfl ?_
    -- R4.14 39 := law.go:73 fieldAddr
    refine QL.no rfl rfl ?_
    -- R4.15 40 := law.go:73 indexAddr
    refine QL.no rfl rfl ?_
    -- R4.16 41 := law.go:73 fieldAddr
    refine QL.no rfl rfl ?_
    -- R4.17 42 := law.go:73 load
    refine QL.no rfl rfl ?_
    -- R4.18 43 := law.go:73 unOp
    refine QL.no rfl rfl ?_
    -- R4.19 44 := law.go:73 pick
    refine QL.v (fun w st => by first | exact r_pickT (v := .bool _) rfl rfl | exact r_pickF (v := .bool _) rfl rfl) rfl rfl rfl ?_
    -- R4.20 2 := law.go:73 assign
    refine QL.v (fun w st => by first | exact r_assign (v := .int _ _) rfl | exact r_assign rfl) rfl rfl rfl ?_
    -- R4.21 3 := law.go:73 assign
    refine QL.v (fun w st => by first | exact r_assign (v := .bool _) rfl | exact r_assign rfl) rfl rfl rfl ?_
    refine QL.wl hKq fun w st => ?_
    refine WL.fin hK1521 (fun _ _ h => h) ?_
    refine WC.ret2 Tryz.results33 (fun _ _ h => h) rfl ?_
    exact ⟨_, rfl, by rw [e1, e2, hl]; rfl, st.drop⟩
def toldF (c : Int) (m : Nat) (a : Nat × Nat × Nat) : Nat := if (a.2.2 : Int) = c then m ||| 2 ^ a.1 else m
def toldP (ans : List (Nat × Nat × Nat)) (c : Int) : Nat := ans.foldl (toldF c) 0
theorem toldF_lt {c : Int} {a : Nat × Nat × Nat} {m : Nat} (hm : m < 65536) (ha : a.1 < 16) : toldF c m a < 65536 := by
  unfold toldF
  split
  · exact orlt hm (pow16 ha)
  · exact hm
theorem toldL_lt {c : Int} : ∀ (L : List (Nat × Nat × Nat)) {m : Nat}, m < 65536 → (∀ a, a ∈ L → a.1 < 16) → L.foldl (toldF c) m < 65536
  | [], m, hm, _ => hm
  | a :: L, m, hm, h => toldL_lt L (toldF_lt hm (h a List.mem_cons_self)) fun b hb => h b (List.mem_cons_of_mem _ hb)
theorem toldL_bit {c : Int} {i : Nat} : ∀ (L : List (Nat × Nat × Nat)) {m : Nat}, (L.foldl (toldF c) m).testBit i = (m.testBit i || L.any fun a => decide ((a.2.2 : Int) = c) && a.1 == i)
  | [], m => by simp
  | a :: L, m => by
    rw [List.foldl_cons, toldL_bit L, List.any_cons]
    unfold toldF
    by_cases h : (a.2.2 : Int) = c
    · rw [if_pos h, Nat.testBit_or, Nat.testBit_two_pow]
      simp [h, Bool.or_assoc]
      rfl
    · rw [if_neg h]; simp [h]
theorem toldP_bit {ans : List (Nat × Nat × Nat)} {c : Int} {i : Nat} : (toldP ans c).testBit i = true ↔ ∃ a, a ∈ ans ∧ (a.2.2 : Int) = c ∧ a.1 = i := by
  unfold toldP
  rw [toldL_bit]
  simp
set_option maxHeartbeats 4000000 in
theorem told_ok {o : Kern.Op} {bB bA : Nat} {code task cd : Int} {ov : Value} {ans : List (Nat × Nat × Nat)} (hck : CK s s' ans bB bA qv qv' ov l) (h16 : ∀ a, a ∈ ans → a.1 < 16) (st : S0 w0 l w) :
    Calls Tryz.prog 29 #[.agg (stepL o bB bA code task ov).toArray, .int .i64 cd] w (Ret fun u w' => u = .int .u16 (toldP ans cd : Nat) ∧ S0 w0 l w') := by
  obtain ⟨XO, ho, hXO⟩ := hck.a
  obtain ⟨a, c, b, rfl, hc1, hc2, ha, hcell⟩ := ho.form
  obtain ⟨fs, hfs⟩ : ∃ fs : Nat → Value, fs = nth (stepL o bB bA code task (.slice a ans.length c)) := ⟨_, rfl⟩
  have f9 : fs 9 = .slice a ans.length c := by rw [hfs]; rfl
  refine enter [.agg (stepL o bB bA code task (.slice a ans.length c)).toArray, .int .i64 cd] Tryz.func29 rfl Tryz.ntmps29 rfl ?_
  show WC _ _ _ 27 [] [(0, .agg (stepL o bB bA code task (.slice a ans.length c)).toArray), (1, .int .i64 cd)] _
  refine WC.seq fun K1522 hK1522 => ?_
  -- region 0
  refine WC.region ?_
  -- R0.0 2 := law.go:77 box
  refine WL.box (m := 10) (vs := stepL o bB bA code task (.slice a ans.length c)) st rfl rfl rfl rfl rfl rfl ?_
  intro b2 w st
  have st : S0 w0 ((b2, Row 36 10 fs) :: l) w := by rw [hfs]; exact st
  -- R0.1 4 := law.go:77 assign
  refine WL.v (by first | exact r_assign (v := .int _ _) rfl | exact r_assign rfl) rfl rfl rfl ?_
  refine WL.fin hK1522 (fun _ _ h => h) ?_
  refine WC.seq fun K1523 hK1523 => ?_
  -- region 1
  refine WC.region ?_
  -- R1.0 5 := law.go:78 assign
  refine WL.v (by first | exact r_assign (v := .int _ _) rfl | exact r_assign rfl) rfl rfl rfl ?_
  refine WL.fin hK1523 (fun _ _ h => h) ?_
  refine WC.seq fun K1524 hK1524 => ?_
  refine WC.seq fun K1525 hK1525 => ?_
  -- region 2
  refine WC.region ?_
  -- R2.0 8 := law.go:79 fieldAddr
  refine WL.v (by exact r_field ty_fld36_3 rfl) rfl rfl rfl ?_
  -- R2.1 9 := law.go:79 fieldAddr
  refine WL.v (by exact r_field ty_fld34_2 rfl) rfl rfl rfl ?_
  -- R2.2 10 := law.go:79 load
  refine WL.v (by exact r_load1 (v := .slice a ans.length c) ty_one32 rfl (by rw [← f9]; exact st.c0 (by decide))) rfl rfl rfl ?_
  -- R2.3 11 := law.go:79 call
  refine WL.v (by exact r_len ty_usl32 rfl) rfl rfl rfl ?_
  -- R2.4 12 := law.go:79 move
  refine WL.v (by first | exact r_move (v := .int _ _) rfl | exact r_move rfl) rfl rfl rfl ?_
  refine WL.fin hK1525 (fun _ _ h => h) ?_
  refine WC.block ?_
  refine WC.loop (ι := Nat) (fun k => [(1, .int .i64 cd), (2, .pointer (some ⟨b2, 0, none⟩)), (5, .int .u16 ((ans.take k).foldl (toldF cd) 0 : Nat)), (10, .slice a ans.length c), (11, .int .i64 (ans.length : Nat)), (12, .int .i64 (k : Nat))])
    (fun k w' => k ≤ ans.length ∧ S0 w0 ((b2, Row 36 10 fs) :: l) w') (fun k => ans.length - k) 0 ⟨Nat.zero_le _, st⟩ ?_ ?_
  · skip
    repeat (first | exact sub_nil _ | refine sub_cons rfl rfl ?_)
  clear st
  rintro k w ⟨hk, st⟩ K2 hK2
  by_cases hkl : k = ans.length
  · subst hkl
    refine WC.seq fun K1526 hK1526 => ?_
    -- region 3
    refine WC.region ?_
    -- R3.0 13 := law.go:79 binOp
    refine WL.v (by first | exact r_lss rfl rfl (decide_eq_true (by omega)) | exact r_lss rfl rfl (decide_eq_false (by omega)) | exact r_lss rfl rfl rfl) rfl rfl rfl ?_
    refine WL.fin hK1526 (fun _ _ h => h) ?_
    refine WC.seq fun K1527 hK1527 => ?_
    refine WC.condF rfl rfl ?_
    refine WC.exitF hK1524 (fun _ _ h => h) ?_
    refine WC.seq fun K1528 hK1528 => ?_
    -- region 8
    refine WC.region ?_
    -- R8.0 26 := law.go:84 move
    refine WL.v (by first | exact r_move (v := .int _ _) rfl | exact r_move rfl) rfl rfl rfl ?_
    -- R8.1 4 := law.go:84 assign
    refine WL.v (by first | exact r_assign (v := .int _ _) rfl | exact r_assign rfl) rfl rfl rfl ?_
    refine WL.fin hK1528 (fun _ _ h => h) ?_
    refine WC.ret1 Tryz.results29 (fun _ _ h => h) rfl ?_
    exact ⟨_, rfl, by rw [List.take_length]; rfl, st.drop⟩
  have hkl' : k < ans.length := by omega
  obtain ⟨e, he⟩ : ∃ e, ans[k]? = some e := ⟨ans[k], List.getElem?_eq_getElem hkl'⟩
  have hfo := foldl_snoc (f := toldF cd) (b := 0) he
  have hlt : (ans.take k).foldl (toldF cd) 0 < 65536 := toldL_lt _ (by decide) fun x hx => h16 x (List.mem_of_mem_take hx)
  have he16 := h16 e (List.mem_of_getElem? he)
  obtain ⟨F, hF⟩ : ∃ F, F = (ans.take k).foldl (toldF cd) 0 := ⟨_, rfl⟩
  rw [← hF] at hfo hlt
  have hae := ha (by omega)
  have hce := fun j hj => hcell st (fun x hx => List.mem_cons_of_mem _ (hXO hx)) k e he j hj
  by_cases h3 : (e.2.2 : Int) = cd
  · have hw : toldF cd F e = F ||| 2 ^ e.1 := if_pos h3
    refine WC.seq fun K1529 hK1529 => ?_
    -- region 3
    refine WC.region ?_
    -- R3.0 13 := law.go:79 binOp
    refine WL.v (by first | exact r_lss rfl rfl (decide_eq_true (by omega)) | exact r_lss rfl rfl (decide_eq_false (by omega)) | exact r_lss rfl rfl rfl) rfl rfl rfl ?_
    refine WL.fin hK1529 (fun _ _ h => h) ?_
    refine WC.seq fun K1530 hK1530 => ?_
    refine WC.condT rfl rfl ?_
    refine WC.skipF hK1530 (fun _ _ h => h) ?_
    refine WC.seq fun K1531 hK1531 => ?_
    refine WC.block ?_
    refine WC.seq fun K1532 hK1532 => ?_
    -- region 4
    refine WC.region ?_
    -- R4.0 14 := law.go:79 indexAddr
    refine WL.v (by exact r_indexS (j := k) ty_sl32 (congrArg (fun q => Value.slice q ans.length c) hae) rfl rfl (by omega)) rfl rfl rfl ?_
    -- R4.1 15 := law.go:79 load
    refine WL.v (by exact r_loadL (vs := [.int .i64 (e.1 : Nat), .int .u64 (e.2.1 : Nat), .int .i64 (e.2.2 : Nat)]) ty_agg83 rfl ⟨by rw [Nat.zero_add]; exact hce 0 (by decide), by rw [Nat.zero_add]; exact hce 1 (by decide), by rw [Nat.zero_add]; exact hce 2 (by decide), trivial⟩) rfl rfl rfl ?_
    -- R4.2 7 := law.go:79 alloc
    refine WL.alloc (m := 3) st ty_zero83 rfl rfl rfl ?_
    intro b7 w st
    -- R4.3 None := law.go:79 store
    first | refine WL.storeW (vs := [_, _, _]) st ty_agg83 rfl rfl rfl rfl rfl rfl ?_ | refine WL.storeL (vs := [_, _, _]) st ty_agg83 rfl rfl rfl rfl (by first | decide | omega) rfl rfl ?_ | refine WL.storeW (vs := [_, _, _]) st.front1 ty_agg83 rfl rfl rfl rfl rfl rfl ?_ | refine WL.storeL (vs := [_, _, _]) st.front1 ty_agg83 rfl rfl rfl rfl (by first | decide | omega) rfl rfl ?_ | refine WL.storeW (vs := [_, _, _]) st.front2 ty_agg83 rfl rfl rfl rfl rfl rfl ?_ | refine WL.storeL (vs := [_, _, _]) st.front2 ty_agg83 rfl rfl rfl rfl (by first | decide | omega) rfl rfl ?_ | refine WL.storeW (vs := [_, _, _]) st.front3 ty_agg83 rfl rfl rfl rfl rfl rfl ?_ | refine WL.storeL (vs := [_, _, _]) st.front3 ty_agg83 rfl rfl rfl rfl (by first | decide | omega) rfl rfl ?_ | refine WL.storeW (vs := [_, _, _]) st.front4 ty_agg83 rfl rfl rfl rfl rfl rfl ?_ | refine WL.storeL (vs := [_, _, _]) st.front4 ty_agg83 rfl rfl rfl rfl (by first | decide | omega) rfl rfl ?_ | refine WL.storeW (vs := [_, _, _]) st.front5 ty_agg83 rfl rfl rfl rfl rfl rfl ?_ | refine WL.storeL (vs := [_, _, _]) st.front5 ty_agg83 rfl rfl rfl rfl (by first | decide | omega) rfl rfl ?_ | refine WL.storeW (vs := [_, _, _]) st.front6 ty_agg83 rfl rfl rfl rfl rfl rfl ?_ | refine WL.storeL (vs := [_, _, _]) st.front6 ty_agg83 rfl rfl rfl rfl (by first | decide | omega) rfl rfl ?_ | refine WL.storeW (vs := [_, _, _]) st.front7 ty_agg83 rfl rfl rfl rfl rfl rfl ?_ | refine WL.storeL (vs := [_, _, _]) st.front7 ty_agg83 rfl rfl rfl rfl (by first | decide | omega) rfl rfl ?_ | refine WL.storeW (vs := [_, _, _]) st.front8 ty_agg83 rfl rfl rfl rfl rfl rfl ?_ | refine WL.storeL (vs := [_, _, _]) st.front8 ty_agg83 rfl rfl rfl rfl (by first | decide | omega) rfl rfl ?_
    intro w st
    refine WL.fin hK1532 (fun _ _ h => h) ?_
    refine WC.seq fun K1533 hK1533 => ?_
    -- region 5
    refine WC.region ?_
    -- R5.0 16 := law.go:80 fieldAddr
    refine WL.v (by exact r_field ty_fld83_2 rfl) rfl rfl rfl ?_
    -- R5.1 17 := law.go:80 load
    refine WL.v (by exact r_load1 ty_one30 rfl (by first | assumption | exact st.c0 (by first | decide | omega) | exact st.c1 (by first | decide | omega) | exact st.c2 (by first | decide | omega) | exact st.c3 (by first | decide | omega) | exact st.c4 (by first | decide | omega) | exact st.c5 (by first | decide | omega) | exact st.c6 (by first | decide | omega) | exact st.c7 (by first | decide | omega) | exact st.c8 (by first | decide | omega))) rfl rfl rfl ?_
    -- R5.2 18 := law.go:80 move
    refine WL.v (by first | exact r_move (v := .int _ _) rfl | exact r_move rfl) rfl rfl rfl ?_
    -- R5.3 19 := law.go:80 binOp
    refine WL.v (by first | exact r_eql rfl rfl (decide_eq_true (by omega)) | exact r_eql rfl rfl (decide_eq_false (by omega)) | exact r_eql rfl rfl rfl) rfl rfl rfl ?_
    refine WL.fin hK1533 (fun _ _ h => h) ?_
    refine WC.condT rfl rfl ?_
    -- region 6
    refine WC.region ?_
    -- R6.0 20 := law.go:81 move
    refine WL.v (by exact r_move (v := .int .u16 (F : Nat)) (by rw [hF]; rfl)) rfl rfl rfl ?_
    -- R6.1 21 := law.go:81 fieldAddr
    refine WL.v (by exact r_field ty_fld83_0 rfl) rfl rfl rfl ?_
    -- R6.2 22 := law.go:81 load
    refine WL.v (by exact r_load1 ty_one31 rfl (by first | assumption | exact st.c0 (by first | decide | omega) | exact st.c1 (by first | decide | omega) | exact st.c2 (by first | decide | omega) | exact st.c3 (by first | decide | omega) | exact st.c4 (by first | decide | omega) | exact st.c5 (by first | decide | omega) | exact st.c6 (by first | decide | omega) | exact st.c7 (by first | decide | omega) | exact st.c8 (by first | decide | omega))) rfl rfl rfl ?_
    -- R6.3 23 := law.go:81 call
    refine WL.call (r_call ty_call30 rfl) rfl rfl rfl (bit_ok he16 st) ?_
    rintro _ w ⟨rfl, st⟩
    -- R6.4 24 := law.go:81 binOp
    refine WL.v (by exact r_or (r := ((F ||| 2 ^ e.1 : Nat) : Int)) rfl rfl (or16 hlt (pow16 he16))) rfl rfl rfl ?_
    -- R6.5 5 := law.go:81 assign
    refine WL.v (by first | exact r_assign (v := .int _ _) rfl | exact r_assign rfl) rfl rfl rfl ?_
    refine WL.fin hK1531 (fun _ _ h => h) ?_
    -- region 7
    refine WC.region ?_
    -- R7.0 25 := law.go:79 binOp
    refine WL.v (by first | exact r_add rfl rfl (wi64 (by omega) (by omega)) | exact r_add rfl rfl rfl) rfl rfl rfl ?_
    -- R7.1 12 := law.go:79 move
    refine WL.v (by first | exact r_move (v := .int _ _) rfl | exact r_move rfl) rfl rfl rfl ?_
    refine WL.next hK2 (fun _ _ h => h) (k + 1) ⟨hkl', st.drop⟩ (by omega) (by rw [hfo, hw]; repeat (first | exact sub_nil _ | refine sub_cons rfl rfl ?_))
  · have hw : toldF cd F e = F := if_neg h3
    refine WC.seq fun K1534 hK1534 => ?_
    -- region 3
    refine WC.region ?_
    -- R3.0 13 := law.go:79 binOp
    refine WL.v (by first | exact r_lss rfl rfl (decide_eq_true (by omega)) | exact r_lss rfl rfl (decide_eq_false (by omega)) | exact r_lss rfl rfl rfl) rfl rfl rfl ?_
    refine WL.fin hK1534 (fun _ _ h => h) ?_
    refine WC.seq fun K1535 hK1535 => ?_
    refine WC.condT rfl rfl ?_
    refine WC.skipF hK1535 (fun _ _ h => h) ?_
    refine WC.seq fun K1536 hK1536 => ?_
    refine WC.block ?_
    refine WC.seq fun K1537 hK1537 => ?_
    -- region 4
    refine WC.region ?_
    -- R4.0 14 := law.go:79 indexAddr
    refine WL.v (by exact r_indexS (j := k) ty_sl32 (congrArg (fun q => Value.slice q ans.length c) hae) rfl rfl (by omega)) rfl rfl rfl ?_
    -- R4.1 15 := law.go:79 load
    refine WL.v (by exact r_loadL (vs := [.int .i64 (e.1 : Nat), .int .u64 (e.2.1 : Nat), .int .i64 (e.2.2 : Nat)]) ty_agg83 rfl ⟨by rw [Nat.zero_add]; exact hce 0 (by decide), by rw [Nat.zero_add]; exact hce 1 (by decide), by rw [Nat.zero_add]; exact hce 2 (by decide), trivial⟩) rfl rfl rfl ?_
    -- R4.2 7 := law.go:79 alloc
    refine WL.alloc (m := 3) st ty_zero83 rfl rfl rfl ?_
    intro b7 w st
    -- R4.3 None := law.go:79 store
    first | refine WL.storeW (vs := [_, _, _]) st ty_agg83 rfl rfl rfl rfl rfl rfl ?_ | refine WL.storeL (vs := [_, _, _]) st ty_agg83 rfl rfl rfl rfl (by first | decide | omega) rfl rfl ?_ | refine WL.storeW (vs := [_, _, _]) st.front1 ty_agg83 rfl rfl rfl rfl rfl rfl ?_ | refine WL.storeL (vs := [_, _, _]) st.front1 ty_agg83 rfl rfl rfl rfl (by first | decide | omega) rfl rfl ?_ | refine WL.storeW (vs := [_, _, _]) st.front2 ty_agg83 rfl rfl rfl rfl rfl rfl ?_ | refine WL.storeL (vs := [_, _, _]) st.front2 ty_agg83 rfl rfl rfl rfl (by first | decide | omega) rfl rfl ?_ | refine WL.storeW (vs := [_, _, _]) st.front3 ty_agg83 rfl rfl rfl rfl rfl rfl ?_ | refine WL.storeL (vs := [_, _, _]) st.front3 ty_agg83 rfl rfl rfl rfl (by first | decide | omega) rfl rfl ?_ | refine WL.storeW (vs := [_, _, _]) st.front4 ty_agg83 rfl rfl rfl rfl rfl rfl ?_ | refine WL.storeL (vs := [_, _, _]) st.front4 ty_agg83 rfl rfl rfl rfl (by first | decide | omega) rfl rfl ?_ | refine WL.storeW (vs := [_, _, _]) st.front5 ty_agg83 rfl rfl rfl rfl rfl rfl ?_ | refine WL.storeL (vs := [_, _, _]) st.front5 ty_agg83 rfl rfl rfl rfl (by first | decide | omega) rfl rfl ?_ | refine WL.storeW (vs := [_, _, _]) st.front6 ty_agg83 rfl rfl rfl rfl rfl rfl ?_ | refine WL.storeL (vs := [_, _, _]) st.front6 ty_agg83 rfl rfl rfl rfl (by first | decide | omega) rfl rfl ?_ | refine WL.storeW (vs := [_, _, _]) st.front7 ty_agg83 rfl rfl rfl rfl rfl rfl ?_ | refine WL.storeL (vs := [_, _, _]) st.front7 ty_agg83 rfl rfl rfl rfl (by first | decide | omega) rfl rfl ?_ | refine WL.storeW (vs := [_, _, _]) st.front8 ty_agg83 rfl rfl rfl rfl rfl rfl ?_ | refine WL.storeL (vs := [_, _, _]) st.front8 ty_agg83 rfl rfl rfl rfl (by first | decide | omega) rfl rfl ?_
    intro w st
    refine WL.fin hK1537 (fun _ _ h => h) ?_
    refine WC.seq fun K1538 hK1538 => ?_
    -- region 5
    refine WC.region ?_
    -- R5.0 16 := law.go:80 fieldAddr
    refine WL.v (by exact r_field ty_fld83_2 rfl) rfl rfl rfl ?_
    -- R5.1 17 := law.go:80 load
    refine WL.v (by exact r_load1 ty_one30 rfl (by first | assumption | exact st.c0 (by first | decide | omega) | exact st.c1 (by first | decide | omega) | exact st.c2 (by first | decide | omega) | exact st.c3 (by first | decide | omega) | exact st.c4 (by first | decide | omega) | exact st.c5 (by first | decide | omega) | exact st.c6 (by first | decide | omega) | exact st.c7 (by first | decide | omega) | exact st.c8 (by first | decide | omega))) rfl rfl rfl ?_
    -- R5.2 18 := law.go:80 move
    refine WL.v (by first | exact r_move (v := .int _ _) rfl | exact r_move rfl) rfl rfl rfl ?_
    -- R5.3 19 := law.go:80 binOp
    refine WL.v (by first | exact r_eql rfl rfl (decide_eq_true (by omega)) | exact r_eql rfl rfl (decide_eq_false (by omega)) | exact r_eql rfl rfl rfl) rfl rfl rfl ?_
    refine WL.fin hK1538 (fun _ _ h => h) ?_
    refine WC.condF rfl rfl ?_
    refine WC.skipF hK1536 (fun _ _ h => h) ?_
    -- region 7
    refine WC.region ?_
    -- R7.0 25 := law.go:79 binOp
    refine WL.v (by first | exact r_add rfl rfl (wi64 (by omega) (by omega)) | exact r_add rfl rfl rfl) rfl rfl rfl ?_
    -- R7.1 12 := law.go:79 move
    refine WL.v (by first | exact r_move (v := .int _ _) rfl | exact r_move rfl) rfl rfl rfl ?_
    refine WL.next hK2 (fun _ _ h => h) (k + 1) ⟨hkl', st.drop⟩ (by omega) (by rw [hfo, hw, hF]; repeat (first | exact sub_nil _ | refine sub_cons rfl rfl ?_))
theorem after_id {o : Kern.Op} (h : (stepP s o).1 = s) (ht : s.told = []) : afterP s o = s := by
  unfold afterP
  rw [h]
  obtain ⟨⟩ := s
  simp at ht
  subst ht
  rfl
end Go.Proofs.Qxb6500834aGreatDoor

