import Derived.Test.Qxb6500834aGreatDoorK45
set_option linter.unusedVariables false
set_option linter.unusedSimpArgs false
set_option maxRecDepth 20000
namespace Go.Proofs.Qxb6500834aGreatDoor
open Go.RowKit Go.E1 Go.Kern
theorem ty_call45 : callT Tryz.prog 45 = true := by kernel_rfl
theorem ty_call55 : callT Tryz.prog 55 = true := by kernel_rfl
theorem ty_fld42_1 : fldOff Tryz.prog 42 1 = some 1 := by kernel_rfl
variable {w0 : World} {l X : List HI} {w : World} {s s' s0 : KS} {t r N n : Nat} {qv qv' : Nat → Value}

/-! Law: a spawn beyond sixteen is refused. -/
def slD (s : KS) : Nat → Int
  | 0 => -1
  | n + 1 => if (s.tk (15 - n)).live then slD s n else ((15 - n : Nat) : Int)
theorem slD_find : ∀ n, n ≤ 16 → slD s n = match (List.range' (16 - n) n).find? (fun t => !(s.tk t).live) with | none => -1 | some t => (t : Int)
  | 0, _ => rfl
  | n + 1, h => by
    unfold slD
    rw [show 16 - (n + 1) = 15 - n by omega, List.range'_succ, List.find?_cons]
    rcases hl : (s.tk (15 - n)).live with _ | _
    · rw [if_neg (by decide)]; rfl
    · rw [if_pos rfl, slD_find n (by omega), show 16 - n = 15 - n + 1 by omega]; rfl
theorem slD_slot : slD s 16 = match slotP s with | none => -1 | some t => (t : Int) := by
  rw [slD_find 16 (Nat.le_refl _)]
  unfold slotP
  rw [List.range_eq_range']
theorem slot_lt (h : slotP s = some t) : t < 16 ∧ (s.tk t).live = false :=
  ⟨List.mem_range.1 (List.mem_of_find?_eq_some h), by simpa using List.find?_some h⟩
set_option maxHeartbeats 4000000 in
theorem spawn1_ok {o : Kern.Op} {bB bA : Nat} {code task : Int} {ov : Value} {ans : List (Nat × Nat × Nat)}  (hbi : s.births ≤ 65537) (hk : o.kind ≠ 1 → code ≠ 9) (h0 : o.kind = 1 → slotP s = none → code = 9 ∧ s' = s) (h1 : o.kind = 1 → ∀ t, slotP s = some t → code = 0 ∧ task = t ∧ s'.tk t = bornT s t ∧ s'.births = s.births + 1 ∧ (∀ r, s'.held t r = 0) ∧ ∀ r, s'.claim t r = 0) (hck : CK s s' ans bB bA qv qv' ov l) (st : S0 w0 l w) :
    Calls Tryz.prog 55 #[.agg (stepL o bB bA code task ov).toArray] w (Ret fun v w' => v = .bool true ∧ S0 w0 l w') := by
  obtain ⟨XO, ho, hXO⟩ := hck.a
  obtain ⟨a, c, b, rfl, hc1, hc2, ha, hcell⟩ := ho.form
  obtain ⟨fs, hfs⟩ : ∃ fs : Nat → Value, fs = nth (stepL o bB bA code task (.slice a ans.length c)) := ⟨_, rfl⟩
  have f0 : fs 0 = .int .u8 (o.kind : Nat) := by rw [hfs]; rfl
  have f5 : fs 5 = .pointer (some ⟨bB, 0, none⟩) := by rw [hfs]; rfl
  have f6 : fs 6 = .pointer (some ⟨bA, 0, none⟩) := by rw [hfs]; rfl
  have f7 : fs 7 = .int .i64 code := by rw [hfs]; rfl
  have f8 : fs 8 = .int .i64 task := by rw [hfs]; rfl
  have f9 : fs 9 = .slice a ans.length c := by rw [hfs]; rfl
  by_cases hk1 : o.kind = 1
  rotate_left
  · skip
    refine enter [.agg (stepL o bB bA code task (.slice a ans.length c)).toArray] Tryz.func55 rfl Tryz.ntmps55 rfl ?_
    show WC _ _ _ 112 [] [(0, .agg (stepL o bB bA code task (.slice a ans.length c)).toArray)] _
    refine WC.seq fun K1592 hK1592 => ?_
    -- region 0
    refine WC.region ?_
    -- R0.0 1 := law.go:294 box
    refine WL.box (m := 10) (vs := stepL o bB bA code task (.slice a ans.length c)) st rfl rfl rfl rfl rfl rfl ?_
    intro b1 w st
    have st : S0 w0 ((b1, Row 36 10 fs) :: l) w := by rw [hfs]; exact st
    -- R0.1 2 := law.go:294 assign
    refine WL.v (by first | exact r_assign (v := .bool _) rfl | exact r_assign rfl) rfl rfl rfl ?_
    refine WL.fin hK1592 (fun _ _ h => h) ?_
    refine WC.seq fun K1593 hK1593 => ?_
    refine WC.seq fun K1594 hK1594 => ?_
    -- region 1
    refine WC.region ?_
    -- R1.0 7 := law.go:295 fieldAddr
    refine WL.v (by exact r_field ty_fld36_0 rfl) rfl rfl rfl ?_
    -- R1.1 8 := law.go:295 fieldAddr
    refine WL.v (by exact r_field ty_fld28_0 rfl) rfl rfl rfl ?_
    -- R1.2 9 := law.go:295 load
    refine WL.v (by exact r_load1 (v := .int .u8 (o.kind : Nat)) ty_one25 rfl (by rw [← f0]; exact st.c0 (by decide))) rfl rfl rfl ?_
    -- R1.3 10 := law.go:295 binOp
    refine WL.v (by first | exact r_neq rfl rfl (decide_eq_true (by omega)) | exact r_neq rfl rfl (decide_eq_false (by omega)) | exact r_neq rfl rfl rfl) rfl rfl rfl ?_
    refine WL.fin hK1594 (fun _ _ h => h) ?_
    refine WC.condT rfl rfl ?_
    refine WC.seq fun K1595 hK1595 => ?_
    -- region 2
    refine WC.region ?_
    -- R2.0 11 := law.go:296 fieldAddr
    refine WL.v (by exact r_field ty_fld36_3 rfl) rfl rfl rfl ?_
    -- R2.1 12 := law.go:296 fieldAddr
    refine WL.v (by exact r_field ty_fld34_0 rfl) rfl rfl rfl ?_
    -- R2.2 13 := law.go:296 load
    refine WL.v (by exact r_load1 (v := .int .i64 code) ty_one30 rfl (by rw [← f7]; exact st.c0 (by decide))) rfl rfl rfl ?_
    -- R2.3 14 := law.go:296 binOp
    refine WL.v (by exact r_neq rfl rfl (decide_eq_true (hk hk1))) rfl rfl rfl ?_
    -- R2.4 2 := law.go:296 assign
    refine WL.v (by first | exact r_assign (v := .bool _) rfl | exact r_assign rfl) rfl rfl rfl ?_
    refine WL.fin hK1595 (fun _ _ h => h) ?_
    refine WC.ret1 Tryz.results55 (fun _ _ h => h) rfl ?_
    exact ⟨_, rfl, rfl, st.drop⟩
  refine enter [.agg (stepL o bB bA code task (.slice a ans.length c)).toArray] Tryz.func55 rfl Tryz.ntmps55 rfl ?_
  show WC _ _ _ 112 [] [(0, .agg (stepL o bB bA code task (.slice a ans.length c)).toArray)] _
  refine WC.seq fun K1596 hK1596 => ?_
  -- region 0
  refine WC.region ?_
  -- R0.0 1 := law.go:294 box
  refine WL.box (m := 10) (vs := stepL o bB bA code task (.slice a ans.length c)) st rfl rfl rfl rfl rfl rfl ?_
  intro b1 w st
  have st : S0 w0 ((b1, Row 36 10 fs) :: l) w := by rw [hfs]; exact st
  -- R0.1 2 := law.go:294 assign
  refine WL.v (by first | exact r_assign (v := .bool _) rfl | exact r_assign rfl) rfl rfl rfl ?_
  refine WL.fin hK1596 (fun _ _ h => h) ?_
  refine WC.seq fun K1597 hK1597 => ?_
  refine WC.seq fun K1598 hK1598 => ?_
  -- region 1
  refine WC.region ?_
  -- R1.0 7 := law.go:295 fieldAddr
  refine WL.v (by exact r_field ty_fld36_0 rfl) rfl rfl rfl ?_
  -- R1.1 8 := law.go:295 fieldAddr
  refine WL.v (by exact r_field ty_fld28_0 rfl) rfl rfl rfl ?_
  -- R1.2 9 := law.go:295 load
  refine WL.v (by exact r_load1 (v := .int .u8 (o.kind : Nat)) ty_one25 rfl (by rw [← f0]; exact st.c0 (by decide))) rfl rfl rfl ?_
  -- R1.3 10 := law.go:295 binOp
  refine WL.v (by first | exact r_neq rfl rfl (decide_eq_true (by omega)) | exact r_neq rfl rfl (decide_eq_false (by omega)) | exact r_neq rfl rfl rfl) rfl rfl rfl ?_
  refine WL.fin hK1598 (fun _ _ h => h) ?_
  refine WC.condF rfl rfl ?_
  refine WC.skipF hK1597 (fun _ _ h => h) ?_
  refine WC.seq fun K1599 hK1599 => ?_
  -- region 3
  refine WC.region ?_
  -- R3.0 3 := law.go:298 assign
  refine WL.v (by first | exact r_assign (v := .int _ _) rfl | exact r_assign rfl) rfl rfl rfl ?_
  refine WL.fin hK1599 (fun _ _ h => h) ?_
  refine WC.seq fun K1600 hK1600 => ?_
  refine WC.seq fun K1601 hK1601 => ?_
  -- region 4
  refine WC.region ?_
  -- R4.0 4 := law.go:299 assign
  refine WL.v (by first | exact r_assign (v := .int _ _) rfl | exact r_assign rfl) rfl rfl rfl ?_
  refine WL.fin hK1601 (fun _ _ h => h) ?_
  refine WC.block ?_
  refine WC.loop (ι := Nat) (fun n => [(1, .pointer (some ⟨b1, 0, none⟩)), (3, .int .i64 (slD s n)), (4, .int .i64 ((15 : Int) - (n : Nat)))])
    (fun n w' => n ≤ 16 ∧ S0 w0 ((b1, Row 36 10 fs) :: l) w') (fun n => 16 - n) 0 ⟨Nat.zero_le _, st⟩ ?_ ?_
  · skip
    repeat (first | exact sub_nil _ | refine sub_cons rfl rfl ?_)
  clear st
  rintro n w ⟨hn, st⟩ K1 hK1
  by_cases h16 : n = 16
  rotate_left
  · have hn' : n < 16 := by omega
    rcases hl : (s.tk (15 - n)).live with _ | _
    · have e : slD s (n + 1) = ((15 - n : Nat) : Int) := if_neg (by rw [hl]; decide)
      refine WC.seq fun K1602 hK1602 => ?_
      refine WC.seq fun K1603 hK1603 => ?_
      -- region 5
      refine WC.region ?_
      -- R5.0 15 := law.go:299 move
      refine WL.v (by first | exact r_move (v := .int _ _) rfl | exact r_move rfl) rfl rfl rfl ?_
      -- R5.1 16 := law.go:299 binOp
      refine WL.v (by first | exact r_geq rfl rfl (decide_eq_true (by omega)) | exact r_geq rfl rfl (decide_eq_false (by omega)) | exact r_geq rfl rfl rfl) rfl rfl rfl ?_
      refine WL.fin hK1603 (fun _ _ h => h) ?_
      refine WC.condT rfl rfl ?_
      refine WC.skipF hK1602 (fun _ _ h => h) ?_
      refine WC.seq fun K1604 hK1604 => ?_
      refine WC.block ?_
      refine WC.seq fun K1605 hK1605 => ?_
      -- region 7
      refine WC.region ?_
      -- R7.0 19 := law.go:300 fieldAddr
      refine WL.v (by exact r_field ty_fld36_1 rfl) rfl rfl rfl ?_
      -- R7.1 20 := law.go:300 load
      refine WL.v (by exact r_load1 (v := .pointer (some ⟨bB, 0, none⟩)) ty_one29 rfl (by rw [← f5]; exact st.c0 (by decide))) rfl rfl rfl ?_
      -- R7.2 21 := law.go:300 move
      refine WL.v (by first | exact r_move (v := .int _ _) rfl | exact r_move rfl) rfl rfl rfl ?_
      -- R7.3 22 := law.go:300 nilCheck
      refine WL.v (by exact r_nilCheck rfl) rfl rfl rfl ?_
      -- R7.4 23 := law.go:300 fieldAddr
      refine WL.v (by exact r_field ty_fld50_3 rfl) rfl rfl rfl ?_
      -- R7.5 24 := law.go:300 indexAddr
      refine WL.v (by exact r_indexA (j := 15 - n) ty_ar43 rfl (congrArg (Value.int .i64) (show ((15 : Int) - (n : Nat)) = ((15 - n : Nat) : Int) by omega)) rfl (by omega)) rfl rfl rfl ?_
      -- R7.6 25 := law.go:300 fieldAddr
      refine WL.v (by exact r_field ty_fld42_0 rfl) rfl rfl rfl ?_
      -- R7.7 26 := law.go:300 load
      refine WL.v (by exact r_load1 (v := .bool false) ty_one4 rfl (by rw [← hl]; exact c_sT (List.mem_cons_of_mem _ hck.B) (i := 15 - n) (by omega) (j := 0) (by decide) (by omega) st)) rfl rfl rfl ?_
      -- R7.8 27 := law.go:300 unOp
      refine WL.v (by first | exact r_notT rfl | exact r_notF rfl | exact r_not rfl) rfl rfl rfl ?_
      refine WL.fin hK1605 (fun _ _ h => h) ?_
      refine WC.condT rfl rfl ?_
      -- region 8
      refine WC.region ?_
      -- R8.0 28 := law.go:301 move
      refine WL.v (by exact r_move (v := .int .i64 ((15 - n : Nat) : Int)) (congrArg (Value.int .i64) (show ((15 : Int) - (n : Nat)) = ((15 - n : Nat) : Int) by omega))) rfl rfl rfl ?_
      -- R8.1 3 := law.go:301 assign
      refine WL.v (by first | exact r_assign (v := .int _ _) rfl | exact r_assign rfl) rfl rfl rfl ?_
      refine WL.fin hK1604 (fun _ _ h => h) ?_
      -- region 6
      refine WC.region ?_
      -- R6.0 17 := law.go:299 move
      refine WL.v (by first | exact r_move (v := .int _ _) rfl | exact r_move rfl) rfl rfl rfl ?_
      -- R6.1 18 := law.go:299 binOp
      refine WL.v (by exact r_sub (r := (15 : Int) - ((n + 1 : Nat) : Int)) rfl rfl ((wi64 (by omega) (by omega)).trans (by omega))) rfl rfl rfl ?_
      -- R6.2 4 := law.go:299 assign
      refine WL.v (by first | exact r_assign (v := .int _ _) rfl | exact r_assign rfl) rfl rfl rfl ?_
      refine WL.next hK1 (fun _ _ h => h) (n + 1) ⟨hn', st⟩ (by omega) (by rw [e]; repeat (first | exact sub_nil _ | refine sub_cons rfl rfl ?_))
    · have e : slD s (n + 1) = slD s n := if_pos hl
      refine WC.seq fun K1606 hK1606 => ?_
      refine WC.seq fun K1607 hK1607 => ?_
      -- region 5
      refine WC.region ?_
      -- R5.0 15 := law.go:299 move
      refine WL.v (by first | exact r_move (v := .int _ _) rfl | exact r_move rfl) rfl rfl rfl ?_
      -- R5.1 16 := law.go:299 binOp
      refine WL.v (by first | exact r_geq rfl rfl (decide_eq_true (by omega)) | exact r_geq rfl rfl (decide_eq_false (by omega)) | exact r_geq rfl rfl rfl) rfl rfl rfl ?_
      refine WL.fin hK1607 (fun _ _ h => h) ?_
      refine WC.condT rfl rfl ?_
      refine WC.skipF hK1606 (fun _ _ h => h) ?_
      refine WC.seq fun K1608 hK1608 => ?_
      refine WC.block ?_
      refine WC.seq fun K1609 hK1609 => ?_
      -- region 7
      refine WC.region ?_
      -- R7.0 19 := law.go:300 fieldAddr
      refine WL.v (by exact r_field ty_fld36_1 rfl) rfl rfl rfl ?_
      -- R7.1 20 := law.go:300 load
      refine WL.v (by exact r_load1 (v := .pointer (some ⟨bB, 0, none⟩)) ty_one29 rfl (by rw [← f5]; exact st.c0 (by decide))) rfl rfl rfl ?_
      -- R7.2 21 := law.go:300 move
      refine WL.v (by first | exact r_move (v := .int _ _) rfl | exact r_move rfl) rfl rfl rfl ?_
      -- R7.3 22 := law.go:300 nilCheck
      refine WL.v (by exact r_nilCheck rfl) rfl rfl rfl ?_
      -- R7.4 23 := law.go:300 fieldAddr
      refine WL.v (by exact r_field ty_fld50_3 rfl) rfl rfl rfl ?_
      -- R7.5 24 := law.go:300 indexAddr
      refine WL.v (by exact r_indexA (j := 15 - n) ty_ar43 rfl (congrArg (Value.int .i64) (show ((15 : Int) - (n : Nat)) = ((15 - n : Nat) : Int) by omega)) rfl (by omega)) rfl rfl rfl ?_
      -- R7.6 25 := law.go:300 fieldAddr
      refine WL.v (by exact r_field ty_fld42_0 rfl) rfl rfl rfl ?_
      -- R7.7 26 := law.go:300 load
      refine WL.v (by exact r_load1 (v := .bool true) ty_one4 rfl (by rw [← hl]; exact c_sT (List.mem_cons_of_mem _ hck.B) (i := 15 - n) (by omega) (j := 0) (by decide) (by omega) st)) rfl rfl rfl ?_
      -- R7.8 27 := law.go:300 unOp
      refine WL.v (by first | exact r_notT rfl | exact r_notF rfl | exact r_not rfl) rfl rfl rfl ?_
      refine WL.fin hK1609 (fun _ _ h => h) ?_
      refine WC.condF rfl rfl ?_
      refine WC.skipF hK1608 (fun _ _ h => h) ?_
      -- region 6
      refine WC.region ?_
      -- R6.0 17 := law.go:299 move
      refine WL.v (by first | exact r_move (v := .int _ _) rfl | exact r_move rfl) rfl rfl rfl ?_
      -- R6.1 18 := law.go:299 binOp
      refine WL.v (by exact r_sub (r := (15 : Int) - ((n + 1 : Nat) : Int)) rfl rfl ((wi64 (by omega) (by omega)).trans (by omega))) rfl rfl rfl ?_
      -- R6.2 4 := law.go:299 assign
      refine WL.v (by first | exact r_assign (v := .int _ _) rfl | exact r_assign rfl) rfl rfl rfl ?_
      refine WL.next hK1 (fun _ _ h => h) (n + 1) ⟨hn', st⟩ (by omega) (by rw [e]; repeat (first | exact sub_nil _ | refine sub_cons rfl rfl ?_))
  subst h16
  rcases hs : slotP s with _ | t
  · have e : slD s 16 = -1 := by rw [slD_slot, hs]
    obtain ⟨hc, hss⟩ := h0 hk1 hs
    have hss := hss.symm
    subst hss
    refine WC.seq fun K1610 hK1610 => ?_
    refine WC.seq fun K1611 hK1611 => ?_
    -- region 5
    refine WC.region ?_
    -- R5.0 15 := law.go:299 move
    refine WL.v (by first | exact r_move (v := .int _ _) rfl | exact r_move rfl) rfl rfl rfl ?_
    -- R5.1 16 := law.go:299 binOp
    refine WL.v (by first | exact r_geq rfl rfl (decide_eq_true (by omega)) | exact r_geq rfl rfl (decide_eq_false (by omega)) | exact r_geq rfl rfl rfl) rfl rfl rfl ?_
    refine WL.fin hK1611 (fun _ _ h => h) ?_
    refine WC.condF rfl rfl ?_
    refine WC.exitF hK1600 (fun _ _ h => h) ?_
    refine WC.seq fun K1612 hK1612 => ?_
    refine WC.seq fun K1613 hK1613 => ?_
    -- region 9
    refine WC.region ?_
    -- R9.0 29 := law.go:304 move
    refine WL.v (by exact r_move (v := .int .i64 (-1)) (congrArg (Value.int .i64) e)) rfl rfl rfl ?_
    -- R9.1 30 := law.go:304 binOp
    refine WL.v (by first | exact r_eql rfl rfl (decide_eq_true (by omega)) | exact r_eql rfl rfl (decide_eq_false (by omega)) | exact r_eql rfl rfl rfl) rfl rfl rfl ?_
    refine WL.fin hK1613 (fun _ _ h => h) ?_
    refine WC.condT rfl rfl ?_
    refine WC.seq fun K1614 hK1614 => ?_
    -- region 10
    refine WC.region ?_
    -- R10.0 31 := law.go:305 fieldAddr
    refine WL.v (by exact r_field ty_fld36_3 rfl) rfl rfl rfl ?_
    -- R10.1 32 := law.go:305 fieldAddr
    refine WL.v (by exact r_field ty_fld34_0 rfl) rfl rfl rfl ?_
    -- R10.2 33 := law.go:305 load
    refine WL.v (by exact r_load1 (v := .int .i64 code) ty_one30 rfl (by rw [← f7]; exact st.c0 (by decide))) rfl rfl rfl ?_
    -- R10.3 34 := law.go:305 binOp
    refine WL.v (by first | exact r_eql rfl rfl (decide_eq_true (by omega)) | exact r_eql rfl rfl (decide_eq_false (by omega)) | exact r_eql rfl rfl rfl) rfl rfl rfl ?_
    -- R10.4 35 := law.go:305 move
    refine WL.v (by first | exact r_move (v := .bool _) rfl | exact r_move rfl) rfl rfl rfl ?_
    -- R10.5 36 := law.go:305 fieldAddr
    refine WL.v (by exact r_field ty_fld36_2 rfl) rfl rfl rfl ?_
    -- R10.6 37 := law.go:305 load
    refine WL.v (by exact r_load1 (v := .pointer (some ⟨bA, 0, none⟩)) ty_one29 rfl (by rw [← f6]; exact st.c0 (by decide))) rfl rfl rfl ?_
    -- R10.7 38 := law.go:305 fieldAddr
    refine WL.v (by exact r_field ty_fld36_1 rfl) rfl rfl rfl ?_
    -- R10.8 39 := law.go:305 load
    refine WL.v (by exact r_load1 (v := .pointer (some ⟨bB, 0, none⟩)) ty_one29 rfl (by rw [← f5]; exact st.c0 (by decide))) rfl rfl rfl ?_
    -- R10.9 40 := law.go:305 call
    refine WL.call (r_call ty_call45 rfl) rfl rfl rfl (stateEq_ok (List.mem_cons_of_mem _ hck.A) (List.mem_cons_of_mem _ hck.B) hck.c.q' hck.c.q st) ?_
    rintro _ w ⟨rfl, st⟩
    -- R10.10 41 := law.go:305 pick
    refine WL.v (by first | exact r_pickT (v := .bool _) rfl rfl | exact r_pickF (v := .bool _) rfl rfl) rfl rfl rfl ?_
    -- R10.11 2 := law.go:305 assign
    refine WL.v (by first | exact r_assign (v := .bool _) rfl | exact r_assign rfl) rfl rfl rfl ?_
    refine WL.fin hK1614 (fun _ _ h => h) ?_
    refine WC.ret1 Tryz.results55 (fun _ _ h => h) rfl ?_
    exact ⟨_, rfl, rfl, st.drop⟩
  have e : slD s 16 = (t : Nat) := by rw [slD_slot, hs]
  obtain ⟨ht16, hlv⟩ := slot_lt hs
  obtain ⟨hc, htk, hT, hbt, hH, hCl⟩ := h1 hk1 t hs
  refine WC.seq fun K1615 hK1615 => ?_
  refine WC.seq fun K1616 hK1616 => ?_
  -- region 5
  refine WC.region ?_
  -- R5.0 15 := law.go:299 move
  refine WL.v (by first | exact r_move (v := .int _ _) rfl | exact r_move rfl) rfl rfl rfl ?_
  -- R5.1 16 := law.go:299 binOp
  refine WL.v (by first | exact r_geq rfl rfl (decide_eq_true (by omega)) | exact r_geq rfl rfl (decide_eq_false (by omega)) | exact r_geq rfl rfl rfl) rfl rfl rfl ?_
  refine WL.fin hK1616 (fun _ _ h => h) ?_
  refine WC.condF rfl rfl ?_
  refine WC.exitF hK1600 (fun _ _ h => h) ?_
  refine WC.seq fun K1617 hK1617 => ?_
  refine WC.seq fun K1618 hK1618 => ?_
  -- region 9
  refine WC.region ?_
  -- R9.0 29 := law.go:304 move
  refine WL.v (by exact r_move (v := .int .i64 (t : Nat)) (congrArg (Value.int .i64) e)) rfl rfl rfl ?_
  -- R9.1 30 := law.go:304 binOp
  refine WL.v (by first | exact r_eql rfl rfl (decide_eq_true (by omega)) | exact r_eql rfl rfl (decide_eq_false (by omega)) | exact r_eql rfl rfl rfl) rfl rfl rfl ?_
  refine WL.fin hK1618 (fun _ _ h => h) ?_
  refine WC.condF rfl rfl ?_
  refine WC.skipF hK1617 (fun _ _ h => h) ?_
  refine WC.seq fun K1619 hK1619 => ?_
  -- region 11 (draws)
  refine WC.heldS [16] [0, 1, 2, 3, 4, 5, 6, 7, 8, 9, 10, 11, 12, 13, 14] [15, 16] st (st) ty_mixed (by kernel_rfl) fun w st Kq hKq => ?_
  -- R11.0 42 := law.go:307 fieldAddr
  refine HL.v (fun w st => by exact r_field ty_fld36_1 rfl) rfl rfl rfl ?_
  -- R11.1 43 := law.go:307 load
  refine HL.v (fun w st => by exact r_load1 (v := .pointer (some ⟨bB, 0, none⟩)) ty_one29 rfl (by rw [← f5]; exact st.c0 (by decide))) rfl rfl rfl ?_
  -- R11.2 44 := law.go:307 nilCheck
  refine HL.v (fun w st => by exact r_nilCheck rfl) rfl rfl rfl ?_
  -- R11.3 45 := law.go:307 fieldAddr
  refine HL.v (fun w st => by exact r_field ty_fld50_2 rfl) rfl rfl rfl ?_
  -- R11.4 46 := law.go:307 load
  refine HL.v (fun w st => by exact r_load1 (v := .int .u64 (s.births : Nat)) ty_one26 rfl (c_s (List.mem_cons_of_mem _ hck.B) (by decide) rfl st)) rfl rfl rfl ?_
  -- R11.5 47 := law.go:307 binOp
  refine HL.v (fun w st => by exact r_add (r := ((s.births + 1 : Nat) : Int)) rfl rfl ((wu64 (by omega) (by omega)).trans (by omega))) rfl rfl rfl ?_
  -- R11.6 48 := law.go:307 fieldAddr
  refine HL.v (fun w st => by exact r_field ty_fld36_1 rfl) rfl rfl rfl ?_
  -- R11.7 49 := law.go:307 load
  refine HL.v (fun w st => by exact r_load1 (v := .pointer (some ⟨bB, 0, none⟩)) ty_one29 rfl (by rw [← f5]; exact st.c0 (by decide))) rfl rfl rfl ?_
  -- R11.8 50 := law.go:307 move
  refine HL.v (fun w st => by exact r_move (v := .int .i64 (t : Nat)) (congrArg (Value.int .i64) e)) rfl rfl rfl ?_
  -- R11.9 51 := law.go:307 nilCheck
  refine HL.v (fun w st => by exact r_nilCheck rfl) rfl rfl rfl ?_
  -- R11.10 52 := law.go:307 fieldAddr
  refine HL.v (fun w st => by exact r_field ty_fld50_3 rfl) rfl rfl rfl ?_
  -- R11.11 53 := law.go:307 indexAddr
  refine HL.v (fun w st => by exact r_indexA (j := t) ty_ar43 rfl rfl rfl ht16) rfl rfl rfl ?_
  -- R11.12 54 := law.go:307 fieldAddr
  refine HL.v (fun w st => by exact r_field ty_fld42_2 rfl) rfl rfl rfl ?_
  -- R11.13 55 := law.go:307 load
  refine HL.v (fun w st => by exact r_load1 (v := .int .u64 ((s.tk t).epoch : Nat)) ty_one26 rfl (c_sT (List.mem_cons_of_mem _ hck.B) ht16 (j := 2) (by decide) (by omega) st)) rfl rfl rfl ?_
  -- R11.14 56 := law.go:307 build
  refine HL.v (fun w st => by exact r_build (ps := [(0, .bool true), (1, .int .u64 ((s.births + 1 : Nat) : Int)), (2, .int .u64 ((s.tk t).epoch : Nat))]) (vs := [.bool true, .int .u64 ((s.births + 1 : Nat) : Int), .int .u64 ((s.tk t).epoch : Nat), .bool false, .int .u64 0, .int .i64 0]) ty_pl42 ty_zero42 rfl rfl) rfl rfl rfl ?_
  refine HL.fin hKq ?_
  refine TL.at ?_
  -- R11.15 5 := law.go:307 alloc
  refine WL.alloc (m := 6) st ty_zero42 rfl rfl rfl ?_
  intro b5 w st
  refine TL.nxt (by first | exact st | exact st.drop | exact st.drop1 | exact st.drop2 | exact st.drop3 | exact st.drop4 | exact st.drop.drop | exact st.drop.drop1 | exact st.drop.drop2 | exact st.drop.drop3 | exact st.drop.drop4 | exact st.drop.drop.drop | exact st.drop.drop.drop.drop | exact st_dropL st | exact st_dropL st.drop | exact st_none st) ?_
  refine TL.at ?_
  -- R11.16 None := law.go:307 store
  first | refine WL.storeW (vs := [_, _, _, _, _, _]) st ty_agg42 rfl rfl rfl rfl rfl rfl ?_ | refine WL.storeL (vs := [_, _, _, _, _, _]) st ty_agg42 rfl rfl rfl rfl (by first | decide | omega) rfl rfl ?_ | refine WL.storeW (vs := [_, _, _, _, _, _]) st.front1 ty_agg42 rfl rfl rfl rfl rfl rfl ?_ | refine WL.storeL (vs := [_, _, _, _, _, _]) st.front1 ty_agg42 rfl rfl rfl rfl (by first | decide | omega) rfl rfl ?_ | refine WL.storeW (vs := [_, _, _, _, _, _]) st.front2 ty_agg42 rfl rfl rfl rfl rfl rfl ?_ | refine WL.storeL (vs := [_, _, _, _, _, _]) st.front2 ty_agg42 rfl rfl rfl rfl (by first | decide | omega) rfl rfl ?_ | refine WL.storeW (vs := [_, _, _, _, _, _]) st.front3 ty_agg42 rfl rfl rfl rfl rfl rfl ?_ | refine WL.storeL (vs := [_, _, _, _, _, _]) st.front3 ty_agg42 rfl rfl rfl rfl (by first | decide | omega) rfl rfl ?_ | refine WL.storeW (vs := [_, _, _, _, _, _]) st.front4 ty_agg42 rfl rfl rfl rfl rfl rfl ?_ | refine WL.storeL (vs := [_, _, _, _, _, _]) st.front4 ty_agg42 rfl rfl rfl rfl (by first | decide | omega) rfl rfl ?_ | refine WL.storeW (vs := [_, _, _, _, _, _]) st.front5 ty_agg42 rfl rfl rfl rfl rfl rfl ?_ | refine WL.storeL (vs := [_, _, _, _, _, _]) st.front5 ty_agg42 rfl rfl rfl rfl (by first | decide | omega) rfl rfl ?_ | refine WL.storeW (vs := [_, _, _, _, _, _]) st.front6 ty_agg42 rfl rfl rfl rfl rfl rfl ?_ | refine WL.storeL (vs := [_, _, _, _, _, _]) st.front6 ty_agg42 rfl rfl rfl rfl (by first | decide | omega) rfl rfl ?_ | refine WL.storeW (vs := [_, _, _, _, _, _]) st.front7 ty_agg42 rfl rfl rfl rfl rfl rfl ?_ | refine WL.storeL (vs := [_, _, _, _, _, _]) st.front7 ty_agg42 rfl rfl rfl rfl (by first | decide | omega) rfl rfl ?_ | refine WL.storeW (vs := [_, _, _, _, _, _]) st.front8 ty_agg42 rfl rfl rfl rfl rfl rfl ?_ | refine WL.storeL (vs := [_, _, _, _, _, _]) st.front8 ty_agg42 rfl rfl rfl rfl (by first | decide | omega) rfl rfl ?_
  intro w st
  refine TL.nxt' rfl ?_
  refine TL.wl ?_
  refine WL.fin hK1619 (fun _ _ h => h) ?_
  refine WC.seq fun K1620 hK1620 => ?_
  -- region 12
  refine WC.region ?_
  -- R12.0 57 := law.go:308 build
  refine WL.v (by exact r_buildN (n := 20) (z := fun _ => .int .i64 0) (v := fun _ => .int .i64 0) (ps := []) ty_pl44 ty_zeroN44 rfl fill_nil) rfl rfl rfl ?_
  -- R12.1 6 := law.go:308 alloc
  refine WL.allocN (m := 20) st ty_zeroN44 rfl rfl ?_
  intro b6 w st
  -- R12.2 None := law.go:308 store
  refine WL.storeN (v := fun _ => .int .i64 0) st ty_agg44 rfl rfl (fun _ _ => rfl) (by decide) rfl rfl ?_
  intro w st
  have st : S0 w0 ((b6, Row 44 20 (fun _ => .int .i64 0)) :: (b5, Row 42 6 (tsF (bornT s t))) :: (b1, Row 36 10 fs) :: l) w := stE (fun k hk => by rw [upds_eq]; split <;> rfl) st
  refine WL.fin hK1620 (fun _ _ h => h) ?_
  have hck3 := ((hck.c (a := (b1, Row 36 10 fs))).c (a := (b5, Row 42 6 (tsF (bornT s t))))).c (a := (b6, Row 44 20 (fun _ => .int .i64 0)))
  refine WC.seq fun K1621 hK1621 => ?_
  -- region 13 (draws)
  refine WC.quietS st ty_mixed (by kernel_rfl) fun Kq hKq => ?_
  -- R13.0 58 := law.go:309 fieldAddr
  refine QL.v (fun w st => by exact r_field ty_fld36_3 rfl) rfl rfl rfl ?_
  -- R13.1 59 := law.go:309 fieldAddr
  refine QL.v (fun w st => by exact r_field ty_fld34_0 rfl) rfl rfl rfl ?_
  -- R13.2 60 := law.go:309 load
  refine QL.v (fun w st => by exact r_load1 (v := .int .i64 code) ty_one30 rfl (by rw [← f7]; exact st.c2 (by decide))) rfl rfl rfl ?_
  -- R13.3 61 := law.go:309 binOp
  refine QL.v (fun w st => by exact r_eql rfl rfl (decide_eq_true hc)) rfl rfl rfl ?_
  -- R13.4 62 := law.go:309 move
  refine QL.v (fun w st => by first | exact r_move (v := .bool _) rfl | exact r_move rfl) rfl rfl rfl ?_
  -- R13.5 63 := law.go:309 fieldAddr
  refine QL.v (fun w st => by exact r_field ty_fld36_3 rfl) rfl rfl rfl ?_
  -- R13.6 64 := law.go:309 fieldAddr
  refine QL.v (fun w st => by exact r_field ty_fld34_1 rfl) rfl rfl rfl ?_
  -- R13.7 65 := law.go:309 load
  refine QL.v (fun w st => by exact r_load1 (v := .int .i64 task) ty_one31 rfl (by rw [← f8]; exact st.c2 (by decide))) rfl rfl rfl ?_
  -- R13.8 66 := law.go:309 move
  refine QL.v (fun w st => by exact r_move (v := .int .i64 (t : Nat)) (congrArg (Value.int .i64) e)) rfl rfl rfl ?_
  -- R13.9 67 := law.go:309 binOp
  refine QL.v (fun w st => by exact r_eql rfl rfl (decide_eq_true htk)) rfl rfl rfl ?_
  -- R13.10 68 := law.go:309 pick
  refine QL.v (fun w st => by first | exact r_pickT (v := .bool _) rfl rfl | exact r_pickF (v := .bool _) rfl rfl) rfl rfl rfl ?_
  -- R13.11 69 := law.go:309 move
  refine QL.v (fun w st => by first | exact r_move (v := .bool _) rfl | exact r_move rfl) rfl rfl rfl ?_
  -- R13.12 70 := law.go:309 fieldAddr
  refine QL.v (fun w st => by exact r_field ty_fld36_2 rfl) rfl rfl rfl ?_
  -- R13.13 71 := law.go:309 load
  refine QL.v (fun w st => by exact r_load1 (v := .pointer (some ⟨bA, 0, none⟩)) ty_one29 rfl (by rw [← f6]; exact st.c2 (by decide))) rfl rfl rfl ?_
  -- R13.14 72 := law.go:309 move
  refine QL.v (fun w st => by exact r_move (v := .int .i64 (t : Nat)) (congrArg (Value.int .i64) e)) rfl rfl rfl ?_
  -- R13.15 73 := law.go:309 nilCheck
  refine QL.v (fun w st => by exact r_nilCheck rfl) rfl rfl rfl ?_
  -- R13.16 74 := law.go:309 fieldAddr
  refine QL.v (fun w st => by exact r_field ty_fld50_3 rfl) rfl rfl rfl ?_
  -- R13.17 75 := law.go:309 indexAddr
  refine QL.v (fun w st => by exact r_indexA (j := t) ty_ar43 rfl rfl rfl ht16) rfl rfl rfl ?_
  -- R13.18 76 := law.go:309 load
  refine QL.v (fun w st => by exact r_loadN (f := tsF (s'.tk t)) ty_agg42 rfl (fun k hk => c_sT hck3.A ht16 hk (by omega) st)) rfl rfl rfl ?_
  -- R13.19 77 := law.go:309 load
  refine QL.v (fun w st => by exact r_loadN (f := tsF (bornT s t)) ty_agg42 rfl (fun k hk => by rw [Nat.zero_add]; exact st.c1 hk)) rfl rfl rfl ?_
  -- R13.20 78 := law.go:309 binOp
  refine QL.v (fun w st => by exact r_aeql (n := 6) (F := tsF (s'.tk t)) (G := tsF (bornT s t)) (t := true) eqTs rfl rfl rfl ts_fit ⟨fun _ i hi => by rw [hT], fun _ => rfl⟩) rfl rfl rfl ?_
  -- R13.21 79 := law.go:309 pick
  refine QL.v (fun w st => by first | exact r_pickT (v := .bool _) rfl rfl | exact r_pickF (v := .bool _) rfl rfl) rfl rfl rfl ?_
  -- R13.22 80 := law.go:309 move
  refine QL.v (fun w st => by first | exact r_move (v := .bool _) rfl | exact r_move rfl) rfl rfl rfl ?_
  -- R13.23 81 := law.go:309 fieldAddr
  refine QL.v (fun w st => by exact r_field ty_fld36_2 rfl) rfl rfl rfl ?_
  -- R13.24 82 := law.go:309 load
  refine QL.v (fun w st => by exact r_load1 (v := .pointer (some ⟨bA, 0, none⟩)) ty_one29 rfl (by rw [← f6]; exact st.c2 (by decide))) rfl rfl rfl ?_
  -- R13.25 83 := law.go:309 nilCheck
  refine QL.v (fun w st => by exact r_nilCheck rfl) rfl rfl rfl ?_
  -- R13.26 84 := law.go:309 fieldAddr
  refine QL.v (fun w st => by exact r_field ty_fld50_2 rfl) rfl rfl rfl ?_
  -- R13.27 85 := law.go:309 load
  refine QL.v (fun w st => by exact r_load1 (v := .int .u64 (s'.births : Nat)) ty_one26 rfl (c_s hck3.A (by decide) rfl st)) rfl rfl rfl ?_
  -- R13.28 86 := law.go:309 fieldAddr
  refine QL.v (fun w st => by exact r_field ty_fld42_1 rfl) rfl rfl rfl ?_
  -- R13.29 87 := law.go:309 load
  refine QL.v (fun w st => by exact r_load1 (v := .int .u64 ((s.births + 1 : Nat) : Int)) ty_one26 rfl (st.c1 (by decide))) rfl rfl rfl ?_
  -- R13.30 88 := law.go:309 binOp
  refine QL.v (fun w st => by exact r_eql rfl rfl (decide_eq_true (by omega))) rfl rfl rfl ?_
  -- R13.31 89 := law.go:309 pick
  refine QL.v (fun w st => by first | exact r_pickT (v := .bool _) rfl rfl | exact r_pickF (v := .bool _) rfl rfl) rfl rfl rfl ?_
  -- R13.32 90 := law.go:309 move
  refine QL.v (fun w st => by first | exact r_move (v := .bool _) rfl | exact r_move rfl) rfl rfl rfl ?_
  -- R13.33 91 := law.go:309 fieldAddr
  refine QL.v (fun w st => by exact r_field ty_fld36_2 rfl) rfl rfl rfl ?_
  -- R13.34 92 := law.go:309 load
  refine QL.v (fun w st => by exact r_load1 (v := .pointer (some ⟨bA, 0, none⟩)) ty_one29 rfl (by rw [← f6]; exact st.c2 (by decide))) rfl rfl rfl ?_
  -- R13.35 93 := law.go:309 move
  refine QL.v (fun w st => by exact r_move (v := .int .i64 (t : Nat)) (congrArg (Value.int .i64) e)) rfl rfl rfl ?_
  -- R13.36 94 := law.go:309 nilCheck
  refine QL.v (fun w st => by exact r_nilCheck rfl) rfl rfl rfl ?_
  -- R13.37 95 := law.go:309 fieldAddr
  refine QL.v (fun w st => by exact r_field ty_fld50_4 rfl) rfl rfl rfl ?_
  -- R13.38 96 := law.go:309 indexAddr
  refine QL.v (fun w st => by exact r_indexA (j := t) ty_ar45 rfl rfl rfl ht16) rfl rfl rfl ?_
  -- R13.39 97 := law.go:309 load
  refine QL.v (fun w st => by exact r_loadN (f := (fun r => .int .i64 (s'.held t r : Nat))) ty_agg44 rfl (fun k hk => c_sH hck3.A ht16 hk (by omega) st)) rfl rfl rfl ?_
  -- R13.40 98 := law.go:309 load
  refine QL.v (fun w st => by exact r_loadN (f := (fun _ => .int .i64 0)) ty_agg44 rfl (fun k hk => by rw [Nat.zero_add]; exact st.c0 hk)) rfl rfl rfl ?_
  -- R13.41 99 := law.go:309 binOp
  refine QL.v (fun w st => by exact r_aeql (n := 20) (F := fun r => .int .i64 (s'.held t r : Nat)) (G := fun _ => .int .i64 0) (t := true) eqH List.length_replicate rfl rfl (fun i hi => by rw [rep_get hi]; exact KFit.int) ⟨fun _ i hi => by rw [hH]; rfl, fun _ => rfl⟩) rfl rfl rfl ?_
  -- R13.42 100 := law.go:309 pick
  refine QL.v (fun w st => by first | exact r_pickT (v := .bool _) rfl rfl | exact r_pickF (v := .bool _) rfl rfl) rfl rfl rfl ?_
  -- R13.43 101 := law.go:309 move
  refine QL.v (fun w st => by first | exact r_move (v := .bool _) rfl | exact r_move rfl) rfl rfl rfl ?_
  -- R13.44 102 := law.go:309 fieldAddr
  refine QL.v (fun w st => by exact r_field ty_fld36_2 rfl) rfl rfl rfl ?_
  -- R13.45 103 := law.go:309 load
  refine QL.v (fun w st => by exact r_load1 (v := .pointer (some ⟨bA, 0, none⟩)) ty_one29 rfl (by rw [← f6]; exact st.c2 (by decide))) rfl rfl rfl ?_
  -- R13.46 104 := law.go:309 move
  refine QL.v (fun w st => by exact r_move (v := .int .i64 (t : Nat)) (congrArg (Value.int .i64) e)) rfl rfl rfl ?_
  -- R13.47 105 := law.go:309 nilCheck
  refine QL.v (fun w st => by exact r_nilCheck rfl) rfl rfl rfl ?_
  -- R13.48 106 := law.go:309 fieldAddr
  refine QL.v (fun w st => by exact r_field ty_fld50_5 rfl) rfl rfl rfl ?_
  -- R13.49 107 := law.go:309 indexAddr
  refine QL.v (fun w st => by exact r_indexA (j := t) ty_ar45 rfl rfl rfl ht16) rfl rfl rfl ?_
  -- R13.50 108 := law.go:309 load
  refine QL.v (fun w st => by exact r_loadN (f := (fun r => .int .i64 (s'.claim t r : Nat))) ty_agg44 rfl (fun k hk => c_sC hck3.A ht16 hk (by omega) st)) rfl rfl rfl ?_
  -- R13.51 109 := law.go:309 load
  refine QL.v (fun w st => by exact r_loadN (f := (fun _ => .int .i64 0)) ty_agg44 rfl (fun k hk => by rw [Nat.zero_add]; exact st.c0 hk)) rfl rfl rfl ?_
  -- R13.52 110 := law.go:309 binOp
  refine QL.v (fun w st => by exact r_aeql (n := 20) (F := fun r => .int .i64 (s'.claim t r : Nat)) (G := fun _ => .int .i64 0) (t := true) eqH List.length_replicate rfl rfl (fun i hi => by rw [rep_get hi]; exact KFit.int) ⟨fun _ i hi => by rw [hCl]; rfl, fun _ => rfl⟩) rfl rfl rfl ?_
  -- R13.53 111 := law.go:309 pick
  refine QL.v (fun w st => by first | exact r_pickT (v := .bool _) rfl rfl | exact r_pickF (v := .bool _) rfl rfl) rfl rfl rfl ?_
  -- R13.54 2 := law.go:309 assign
  refine QL.v (fun w st => by first | exact r_assign (v := .bool _) rfl | exact r_assign rfl) rfl rfl rfl ?_
  refine QL.wl hKq fun w st => ?_
  refine WL.fin hK1621 (fun _ _ h => h) ?_
  refine WC.ret1 Tryz.results55 (fun _ _ h => h) rfl ?_
  exact ⟨_, rfl, rfl, st.drop.drop.drop⟩
theorem spawn_step {o : Kern.Op} (h1 : o.kind = 1) : stepP s o = spawnP s := by unfold stepP; rw [h1]; rfl
theorem spawnL_ok (a : Option Addr) (sb so n c : Nat) (op : Nat → Kern.Op) (hD : gD w) (hS : Scr w sb so n op) (hn63 : n ≤ 140737488355328) (ha : 0 < n → a = some ⟨sb, so, none⟩) :
    Calls Tryz.prog 13 #[.slice a n c] w (Ret fun v w' => v = .bool true ∧ S0 w [] w') := by
  have st : S0 w [] w := St.init w _
  by_cases hn : n ≤ 65536
  · have hC : CheckOK w 55 #[] op n fun _ LI => LI = [] := by
      refine check_pure fun i hi bB bA qv qv' ov l w' hck st' => ?_
      have hK := run_KI op i
      have hI := run_INV op i
      have hb := hK.births
      refine spawn1_ok (by omega) codes_of.2.1 (fun h1 hs => ?_) (fun h1 t hs => ?_) hck st'
      · have e : stepP (runP op i) (op i) = (runP op i, 9, -1) := by rw [spawn_step h1]; unfold spawnP; rw [hs]
        exact ⟨by rw [e], after_id (by rw [e]) hK.told⟩
      · have e : stepP (runP op i) (op i) = (bornS (runP op i) t, 0, (t : Int)) := by rw [spawn_step h1]; unfold spawnP; rw [hs]
        have hl := (slot_lt hs).2
        have eA : runP op (i + 1) = { bornS (runP op i) t with told := [] } := by show afterP _ _ = _; unfold afterP; rw [e]
        refine ⟨by rw [e], by rw [e], by rw [eA]; exact updN_same, by rw [eA]; rfl, fun r => ?_, fun r => ?_⟩
        · rw [eA]
          show (runP op i).held t r = 0
          cases Nat.eq_zero_or_pos ((runP op i).held t r) with
          | inl h => exact h
          | inr h => have := hI.hl t r (by omega); rw [hl] at this; cases this
        · rw [eA]
          show (runP op i).claim t r = 0
          cases Nat.eq_zero_or_pos ((runP op i).claim t r) with
          | inl h => exact h
          | inr h => have := hI.cl t r (by omega); rw [hl] at this; cases this
    refine enter [.slice a n c] Tryz.func13 rfl Tryz.ntmps13 rfl ?_
    show WC _ _ _ 8 [] [(0, .slice a n c)] _
    refine WC.seq fun K1622 hK1622 => ?_
    -- region 0
    refine WC.region ?_
    -- R0.0 2 := law.go:289 assign
    refine WL.v (by first | exact r_assign (v := .bool _) rfl | exact r_assign rfl) rfl rfl rfl ?_
    refine WL.fin hK1622 (fun _ _ h => h) ?_
    refine WC.seq fun K1623 hK1623 => ?_
    refine WC.seq fun K1624 hK1624 => ?_
    -- region 1
    refine WC.region ?_
    -- R1.0 3 := law.go:290 move
    refine WL.v (by first | exact r_move (v := .slice _ _ _) rfl | exact r_move rfl) rfl rfl rfl ?_
    -- R1.1 4 := law.go:290 call
    refine WL.call (r_call ty_call23 rfl) rfl rfl rfl (zzSmall1_ok a n c st) ?_
    rintro _ w' ⟨he, st⟩
    rw [decide_eq_true hn] at he
    subst he
    -- R1.2 5 := law.go:290 unOp
    refine WL.v (by first | exact r_notT rfl | exact r_notF rfl | exact r_not rfl) rfl rfl rfl ?_
    refine WL.fin hK1624 (fun _ _ h => h) ?_
    refine WC.condF rfl rfl ?_
    refine WC.skipF hK1623 (fun _ _ h => h) ?_
    refine WC.seq fun K1625 hK1625 => ?_
    -- region 3
    refine WC.region ?_
    -- R3.0 6 := law.go:294 move
    refine WL.v (by first | exact r_move (v := .slice _ _ _) rfl | exact r_move rfl) rfl rfl rfl ?_
    -- R3.1 7 := law.go:294 call
    refine WL.call (r_call ty_call24 rfl) rfl rfl rfl (play_ok (LI := []) (l := []) ty_call55 hD hS hn ha hC rfl st) ?_
    rintro _ w'' ⟨rfl, LI', rfl, st⟩
    -- R3.2 2 := law.go:294 assign
    refine WL.v (by first | exact r_assign (v := .bool _) rfl | exact r_assign rfl) rfl rfl rfl ?_
    refine WL.fin hK1625 (fun _ _ h => h) ?_
    refine WC.ret1 Tryz.results13 (fun _ _ h => h) rfl ?_
    exact ⟨_, rfl, rfl, st⟩
  · skip
    refine enter [.slice a n c] Tryz.func13 rfl Tryz.ntmps13 rfl ?_
    show WC _ _ _ 8 [] [(0, .slice a n c)] _
    refine WC.seq fun K1626 hK1626 => ?_
    -- region 0
    refine WC.region ?_
    -- R0.0 2 := law.go:289 assign
    refine WL.v (by first | exact r_assign (v := .bool _) rfl | exact r_assign rfl) rfl rfl rfl ?_
    refine WL.fin hK1626 (fun _ _ h => h) ?_
    refine WC.seq fun K1627 hK1627 => ?_
    refine WC.seq fun K1628 hK1628 => ?_
    -- region 1
    refine WC.region ?_
    -- R1.0 3 := law.go:290 move
    refine WL.v (by first | exact r_move (v := .slice _ _ _) rfl | exact r_move rfl) rfl rfl rfl ?_
    -- R1.1 4 := law.go:290 call
    refine WL.call (r_call ty_call23 rfl) rfl rfl rfl (zzSmall1_ok a n c st) ?_
    rintro _ w' ⟨he, st⟩
    rw [decide_eq_false hn] at he
    subst he
    -- R1.2 5 := law.go:290 unOp
    refine WL.v (by first | exact r_notT rfl | exact r_notF rfl | exact r_not rfl) rfl rfl rfl ?_
    refine WL.fin hK1628 (fun _ _ h => h) ?_
    refine WC.condT rfl rfl ?_
    refine WC.seq fun K1629 hK1629 => ?_
    -- region 2
    refine WC.region ?_
    -- R2.0 2 := law.go:291 assign
    refine WL.v (by first | exact r_assign (v := .bool _) rfl | exact r_assign rfl) rfl rfl rfl ?_
    refine WL.fin hK1629 (fun _ _ h => h) ?_
    refine WC.ret1 Tryz.results13 (fun _ _ h => h) rfl ?_
    exact ⟨_, rfl, rfl, st⟩
end Go.Proofs.Qxb6500834aGreatDoor

