import Derived.Test.Qxb6500841aDoorX9
set_option linter.unusedVariables false
set_option linter.unusedSimpArgs false
set_option maxRecDepth 20000
namespace Go.Proofs.Qxb6500841aDoor
open Go.RowKit Go.E1 Go.Wire
variable {w0 : World} {L : List HI} {w : World} {ET : Nat → TypeId} {EU : Nat → Value}

set_option maxHeartbeats 4000000 in
theorem check_ok (hE : ErrOk w0 ET EU) (b o : Nat) (f : FD) (hf : f.ok) (hr : ∀ its w', S0 w0 (its ++ L) w' → FrAt w' b o f) (st : S0 w0 L w) :
    Calls Tryd.prog 33 #[.pointer (some ⟨b, o, none⟩)] w (Ret fun v w' => IfErr v (checkP f) ∧ S0 w0 L w') := by
  have hrc := fun its w' q => (hr its w' q).c
  have h1 := hf.xr.r1
  have hl1 := hf.l1
  have hl4 := hf.l4
  have hiN : innerN f ≤ 2000000000 := by
    have := hf.l2
    have := hf.l3
    unfold innerN; split
    · omega
    · split <;> omega
  by_cases k4 : 4 ≤ f.k
  · skip
    refine enter [.pointer (some ⟨b, o, none⟩)] Tryd.func33 rfl Tryd.ntmps33 rfl ?_
    show WC _ _ _ 66 [] [(0, .pointer (some ⟨b, o, none⟩))] _
    refine WC.seq fun K637 hK637 => ?_
    -- region 0
    refine WC.region ?_
    -- R0.0 2 := frame.go:132 assign
    refine WL.v (by first | exact r_assign (v := .nilIface) rfl | exact r_assign (v := .iface _ _) rfl | exact r_assign rfl) rfl rfl rfl ?_
    refine WL.fin hK637 (fun _ _ h => h) ?_
    refine WC.seq fun K638 hK638 => ?_
    refine WC.seq fun K639 hK639 => ?_
    -- region 1
    refine WC.region ?_
    -- R1.0 5 := frame.go:133 move
    refine WL.v (by first | exact r_move (v := .pointer _) rfl | exact r_move rfl) rfl rfl rfl ?_
    -- R1.1 6 := frame.go:133 nilCheck
    refine WL.v (by exact r_nilCheck rfl) rfl rfl rfl ?_
    -- R1.2 7 := frame.go:133 fieldAddr
    refine WL.v (by exact r_field ty_fld43_0 rfl) rfl rfl rfl ?_
    -- R1.3 8 := frame.go:133 load
    refine WL.v (by first | exact r_load1 ty_one27 rfl (hrc [] _ st 0 (by decide)) | exact r_load1 ty_one27 rfl (hrc _ _ st 0 (by decide)) | exact r_load1 ty_one27 rfl (hrc [_] _ st 0 (by decide)) | exact r_load1 ty_one27 rfl (hrc [_, _] _ st 0 (by decide)) | exact r_load1 ty_one27 rfl (hrc [_, _, _] _ st 0 (by decide))) rfl rfl rfl ?_
    -- R1.4 9 := frame.go:133 binOp
    refine WL.v (by first | exact r_geq rfl rfl (decide_eq_true (by omega)) | exact r_geq rfl rfl (decide_eq_false (by omega)) | exact r_geq rfl rfl rfl) rfl rfl rfl ?_
    refine WL.fin hK639 (fun _ _ h => h) ?_
    refine WC.condT rfl rfl ?_
    refine WC.seq fun K640 hK640 => ?_
    -- region 2
    refine WC.region ?_
    -- R2.0 10 := frame.go:134 load
    refine WL.v (by exact r_load1 ty_one47 rfl (st.old (fun h => h) (hE 11 (by decide)))) rfl rfl rfl ?_
    -- R2.1 2 := frame.go:134 assign
    refine WL.v (by first | exact r_assign (v := .nilIface) rfl | exact r_assign (v := .iface _ _) rfl | exact r_assign rfl) rfl rfl rfl ?_
    refine WL.fin hK640 (fun _ _ h => h) ?_
    refine WC.ret1 Tryd.results33 (fun _ _ h => h) rfl ?_
    exact ⟨_, rfl, .inr ⟨⟨_, _, rfl⟩, fun h => by have := h.1; omega⟩, st⟩
  refine enter [.pointer (some ⟨b, o, none⟩)] Tryd.func33 rfl Tryd.ntmps33 rfl ?_
  show WC _ _ _ 66 [] [(0, .pointer (some ⟨b, o, none⟩))] _
  refine WC.seq fun K641 hK641 => ?_
  -- region 0
  refine WC.region ?_
  -- R0.0 2 := frame.go:132 assign
  refine WL.v (by first | exact r_assign (v := .nilIface) rfl | exact r_assign (v := .iface _ _) rfl | exact r_assign rfl) rfl rfl rfl ?_
  refine WL.fin hK641 (fun _ _ h => h) ?_
  refine WC.seq fun K642 hK642 => ?_
  refine WC.seq fun K643 hK643 => ?_
  -- region 1
  refine WC.region ?_
  -- R1.0 5 := frame.go:133 move
  refine WL.v (by first | exact r_move (v := .pointer _) rfl | exact r_move rfl) rfl rfl rfl ?_
  -- R1.1 6 := frame.go:133 nilCheck
  refine WL.v (by exact r_nilCheck rfl) rfl rfl rfl ?_
  -- R1.2 7 := frame.go:133 fieldAddr
  refine WL.v (by exact r_field ty_fld43_0 rfl) rfl rfl rfl ?_
  -- R1.3 8 := frame.go:133 load
  refine WL.v (by first | exact r_load1 ty_one27 rfl (hrc [] _ st 0 (by decide)) | exact r_load1 ty_one27 rfl (hrc _ _ st 0 (by decide)) | exact r_load1 ty_one27 rfl (hrc [_] _ st 0 (by decide)) | exact r_load1 ty_one27 rfl (hrc [_, _] _ st 0 (by decide)) | exact r_load1 ty_one27 rfl (hrc [_, _, _] _ st 0 (by decide))) rfl rfl rfl ?_
  -- R1.4 9 := frame.go:133 binOp
  refine WL.v (by first | exact r_geq rfl rfl (decide_eq_true (by omega)) | exact r_geq rfl rfl (decide_eq_false (by omega)) | exact r_geq rfl rfl rfl) rfl rfl rfl ?_
  refine WL.fin hK643 (fun _ _ h => h) ?_
  refine WC.condF rfl rfl ?_
  refine WC.skipF hK642 (fun _ _ h => h) ?_
  refine WC.seq fun K644 hK644 => ?_
  refine WC.seq fun K645 hK645 => ?_
  -- region 3
  refine WC.region ?_
  -- R3.0 11 := frame.go:136 move
  refine WL.v (by first | exact r_move (v := .pointer _) rfl | exact r_move rfl) rfl rfl rfl ?_
  -- R3.1 12 := frame.go:136 call
  refine WL.call (r_call ty_call49 rfl) rfl rfl rfl (stray_ok b o f hf hr st) ?_
  rintro fv w ⟨hfv, st⟩
  refine WL.fin hK645 (fun _ _ h => h) ?_
  rcases hfv with ⟨rfl, hs⟩ | ⟨rfl, hs⟩
  · skip
    refine WC.condT rfl rfl ?_
    refine WC.seq fun K646 hK646 => ?_
    -- region 4
    refine WC.region ?_
    -- R4.0 13 := frame.go:137 load
    refine WL.v (by exact r_load1 ty_one47 rfl (st.old (fun h => h) (hE 12 (by decide)))) rfl rfl rfl ?_
    -- R4.1 2 := frame.go:137 assign
    refine WL.v (by first | exact r_assign (v := .nilIface) rfl | exact r_assign (v := .iface _ _) rfl | exact r_assign rfl) rfl rfl rfl ?_
    refine WL.fin hK646 (fun _ _ h => h) ?_
    refine WC.ret1 Tryd.results33 (fun _ _ h => h) rfl ?_
    exact ⟨_, rfl, .inr ⟨⟨_, _, rfl⟩, fun h => h.2.1 hs⟩, st⟩
  by_cases k0 : f.k = 0
  · by_cases ht : f.e 12 = 2048
    · skip
      refine WC.condF rfl rfl ?_
      refine WC.skipF hK644 (fun _ _ h => h) ?_
      refine WC.seq fun K647 hK647 => ?_
      refine WC.seq fun K648 hK648 => ?_
      -- region 5
      refine WC.region ?_
      -- R5.0 14 := frame.go:139 move
      refine WL.v (by first | exact r_move (v := .pointer _) rfl | exact r_move rfl) rfl rfl rfl ?_
      -- R5.1 15 := frame.go:139 nilCheck
      refine WL.v (by exact r_nilCheck rfl) rfl rfl rfl ?_
      -- R5.2 16 := frame.go:139 fieldAddr
      refine WL.v (by exact r_field ty_fld43_0 rfl) rfl rfl rfl ?_
      -- R5.3 17 := frame.go:139 load
      refine WL.v (by first | exact r_load1 ty_one27 rfl (hrc [] _ st 0 (by decide)) | exact r_load1 ty_one27 rfl (hrc _ _ st 0 (by decide)) | exact r_load1 ty_one27 rfl (hrc [_] _ st 0 (by decide)) | exact r_load1 ty_one27 rfl (hrc [_, _] _ st 0 (by decide)) | exact r_load1 ty_one27 rfl (hrc [_, _, _] _ st 0 (by decide))) rfl rfl rfl ?_
      -- R5.4 18 := frame.go:139 binOp
      refine WL.v (by first | exact r_eql rfl rfl (decide_eq_true (by omega)) | exact r_eql rfl rfl (decide_eq_false (by omega)) | exact r_eql rfl rfl rfl) rfl rfl rfl ?_
      refine WL.fin hK648 (fun _ _ h => h) ?_
      refine WC.condT rfl rfl ?_
      refine WC.seq fun K649 hK649 => ?_
      refine WC.seq fun K650 hK650 => ?_
      -- region 6
      refine WC.region ?_
      -- R6.0 19 := frame.go:140 move
      refine WL.v (by first | exact r_move (v := .pointer _) rfl | exact r_move rfl) rfl rfl rfl ?_
      -- R6.1 20 := frame.go:140 nilCheck
      refine WL.v (by exact r_nilCheck rfl) rfl rfl rfl ?_
      -- R6.2 21 := frame.go:140 fieldAddr
      refine WL.v (by exact r_field ty_fld43_1 rfl) rfl rfl rfl ?_
      -- R6.3 22 := frame.go:140 fieldAddr
      refine WL.v (by exact r_field ty_fld32_2 rfl) rfl rfl rfl ?_
      -- R6.4 23 := frame.go:140 load
      refine WL.v (by first | exact r_load1 ty_one30 rfl (hrc [] _ st 13 (by decide)) | exact r_load1 ty_one30 rfl (hrc _ _ st 13 (by decide)) | exact r_load1 ty_one30 rfl (hrc [_] _ st 13 (by decide)) | exact r_load1 ty_one30 rfl (hrc [_, _] _ st 13 (by decide)) | exact r_load1 ty_one30 rfl (hrc [_, _, _] _ st 13 (by decide))) rfl rfl rfl ?_
      -- R6.5 24 := frame.go:140 binOp
      refine WL.v (by first | exact r_eql rfl rfl (decide_eq_true (by omega)) | exact r_eql rfl rfl (decide_eq_false (by omega)) | exact r_eql rfl rfl rfl) rfl rfl rfl ?_
      refine WL.fin hK650 (fun _ _ h => h) ?_
      refine WC.condT rfl rfl ?_
      refine WC.seq fun K651 hK651 => ?_
      -- region 7
      refine WC.region ?_
      -- R7.0 25 := frame.go:141 load
      refine WL.v (by exact r_load1 ty_one47 rfl (st.old (fun h => h) (hE 13 (by decide)))) rfl rfl rfl ?_
      -- R7.1 2 := frame.go:141 assign
      refine WL.v (by first | exact r_assign (v := .nilIface) rfl | exact r_assign (v := .iface _ _) rfl | exact r_assign rfl) rfl rfl rfl ?_
      refine WL.fin hK651 (fun _ _ h => h) ?_
      refine WC.ret1 Tryd.results33 (fun _ _ h => h) rfl ?_
      exact ⟨_, rfl, .inr ⟨⟨_, _, rfl⟩, fun h => h.2.2.elim (fun h => h.2 ht) (fun h => h.1 k0)⟩, st⟩
    · skip
      refine WC.condF rfl rfl ?_
      refine WC.skipF hK644 (fun _ _ h => h) ?_
      refine WC.seq fun K652 hK652 => ?_
      refine WC.seq fun K653 hK653 => ?_
      -- region 5
      refine WC.region ?_
      -- R5.0 14 := frame.go:139 move
      refine WL.v (by first | exact r_move (v := .pointer _) rfl | exact r_move rfl) rfl rfl rfl ?_
      -- R5.1 15 := frame.go:139 nilCheck
      refine WL.v (by exact r_nilCheck rfl) rfl rfl rfl ?_
      -- R5.2 16 := frame.go:139 fieldAddr
      refine WL.v (by exact r_field ty_fld43_0 rfl) rfl rfl rfl ?_
      -- R5.3 17 := frame.go:139 load
      refine WL.v (by first | exact r_load1 ty_one27 rfl (hrc [] _ st 0 (by decide)) | exact r_load1 ty_one27 rfl (hrc _ _ st 0 (by decide)) | exact r_load1 ty_one27 rfl (hrc [_] _ st 0 (by decide)) | exact r_load1 ty_one27 rfl (hrc [_, _] _ st 0 (by decide)) | exact r_load1 ty_one27 rfl (hrc [_, _, _] _ st 0 (by decide))) rfl rfl rfl ?_
      -- R5.4 18 := frame.go:139 binOp
      refine WL.v (by first | exact r_eql rfl rfl (decide_eq_true (by omega)) | exact r_eql rfl rfl (decide_eq_false (by omega)) | exact r_eql rfl rfl rfl) rfl rfl rfl ?_
      refine WL.fin hK653 (fun _ _ h => h) ?_
      refine WC.condT rfl rfl ?_
      refine WC.seq fun K654 hK654 => ?_
      refine WC.seq fun K655 hK655 => ?_
      -- region 6
      refine WC.region ?_
      -- R6.0 19 := frame.go:140 move
      refine WL.v (by first | exact r_move (v := .pointer _) rfl | exact r_move rfl) rfl rfl rfl ?_
      -- R6.1 20 := frame.go:140 nilCheck
      refine WL.v (by exact r_nilCheck rfl) rfl rfl rfl ?_
      -- R6.2 21 := frame.go:140 fieldAddr
      refine WL.v (by exact r_field ty_fld43_1 rfl) rfl rfl rfl ?_
      -- R6.3 22 := frame.go:140 fieldAddr
      refine WL.v (by exact r_field ty_fld32_2 rfl) rfl rfl rfl ?_
      -- R6.4 23 := frame.go:140 load
      refine WL.v (by first | exact r_load1 ty_one30 rfl (hrc [] _ st 13 (by decide)) | exact r_load1 ty_one30 rfl (hrc _ _ st 13 (by decide)) | exact r_load1 ty_one30 rfl (hrc [_] _ st 13 (by decide)) | exact r_load1 ty_one30 rfl (hrc [_, _] _ st 13 (by decide)) | exact r_load1 ty_one30 rfl (hrc [_, _, _] _ st 13 (by decide))) rfl rfl rfl ?_
      -- R6.5 24 := frame.go:140 binOp
      refine WL.v (by first | exact r_eql rfl rfl (decide_eq_true (by omega)) | exact r_eql rfl rfl (decide_eq_false (by omega)) | exact r_eql rfl rfl rfl) rfl rfl rfl ?_
      refine WL.fin hK655 (fun _ _ h => h) ?_
      refine WC.condF rfl rfl ?_
      refine WC.skipF hK654 (fun _ _ h => h) ?_
      refine WC.seq fun K656 hK656 => ?_
      -- region 8
      refine WC.region ?_
      -- R8.0 2 := frame.go:143 assign
      refine WL.v (by first | exact r_assign (v := .nilIface) rfl | exact r_assign (v := .iface _ _) rfl | exact r_assign rfl) rfl rfl rfl ?_
      refine WL.fin hK656 (fun _ _ h => h) ?_
      refine WC.ret1 Tryd.results33 (fun _ _ h => h) rfl ?_
      exact ⟨_, rfl, .inl ⟨rfl, by omega, hs, .inl ⟨k0, ht⟩⟩, st⟩
  by_cases ht : f.e 12 ≠ 2048
  · skip
    refine WC.condF rfl rfl ?_
    refine WC.skipF hK644 (fun _ _ h => h) ?_
    refine WC.seq fun K657 hK657 => ?_
    refine WC.seq fun K658 hK658 => ?_
    -- region 5
    refine WC.region ?_
    -- R5.0 14 := frame.go:139 move
    refine WL.v (by first | exact r_move (v := .pointer _) rfl | exact r_move rfl) rfl rfl rfl ?_
    -- R5.1 15 := frame.go:139 nilCheck
    refine WL.v (by exact r_nilCheck rfl) rfl rfl rfl ?_
    -- R5.2 16 := frame.go:139 fieldAddr
    refine WL.v (by exact r_field ty_fld43_0 rfl) rfl rfl rfl ?_
    -- R5.3 17 := frame.go:139 load
    refine WL.v (by first | exact r_load1 ty_one27 rfl (hrc [] _ st 0 (by decide)) | exact r_load1 ty_one27 rfl (hrc _ _ st 0 (by decide)) | exact r_load1 ty_one27 rfl (hrc [_] _ st 0 (by decide)) | exact r_load1 ty_one27 rfl (hrc [_, _] _ st 0 (by decide)) | exact r_load1 ty_one27 rfl (hrc [_, _, _] _ st 0 (by decide))) rfl rfl rfl ?_
    -- R5.4 18 := frame.go:139 binOp
    refine WL.v (by first | exact r_eql rfl rfl (decide_eq_true (by omega)) | exact r_eql rfl rfl (decide_eq_false (by omega)) | exact r_eql rfl rfl rfl) rfl rfl rfl ?_
    refine WL.fin hK658 (fun _ _ h => h) ?_
    refine WC.condF rfl rfl ?_
    refine WC.skipF hK657 (fun _ _ h => h) ?_
    refine WC.seq fun K659 hK659 => ?_
    refine WC.seq fun K660 hK660 => ?_
    -- region 9
    refine WC.region ?_
    -- R9.0 26 := frame.go:145 move
    refine WL.v (by first | exact r_move (v := .pointer _) rfl | exact r_move rfl) rfl rfl rfl ?_
    -- R9.1 27 := frame.go:145 nilCheck
    refine WL.v (by exact r_nilCheck rfl) rfl rfl rfl ?_
    -- R9.2 28 := frame.go:145 fieldAddr
    refine WL.v (by exact r_field ty_fld43_1 rfl) rfl rfl rfl ?_
    -- R9.3 29 := frame.go:145 fieldAddr
    refine WL.v (by exact r_field ty_fld32_2 rfl) rfl rfl rfl ?_
    -- R9.4 30 := frame.go:145 load
    refine WL.v (by first | exact r_load1 ty_one30 rfl (hrc [] _ st 13 (by decide)) | exact r_load1 ty_one30 rfl (hrc _ _ st 13 (by decide)) | exact r_load1 ty_one30 rfl (hrc [_] _ st 13 (by decide)) | exact r_load1 ty_one30 rfl (hrc [_, _] _ st 13 (by decide)) | exact r_load1 ty_one30 rfl (hrc [_, _, _] _ st 13 (by decide))) rfl rfl rfl ?_
    -- R9.5 31 := frame.go:145 binOp
    refine WL.v (by first | exact r_neq rfl rfl (decide_eq_true (by omega)) | exact r_neq rfl rfl (decide_eq_false (by omega)) | exact r_neq rfl rfl rfl) rfl rfl rfl ?_
    refine WL.fin hK660 (fun _ _ h => h) ?_
    refine WC.condT rfl rfl ?_
    refine WC.seq fun K661 hK661 => ?_
    -- region 10
    refine WC.region ?_
    -- R10.0 32 := frame.go:146 load
    refine WL.v (by exact r_load1 ty_one47 rfl (st.old (fun h => h) (hE 14 (by decide)))) rfl rfl rfl ?_
    -- R10.1 2 := frame.go:146 assign
    refine WL.v (by first | exact r_assign (v := .nilIface) rfl | exact r_assign (v := .iface _ _) rfl | exact r_assign rfl) rfl rfl rfl ?_
    refine WL.fin hK661 (fun _ _ h => h) ?_
    refine WC.ret1 Tryd.results33 (fun _ _ h => h) rfl ?_
    exact ⟨_, rfl, .inr ⟨⟨_, _, rfl⟩, fun h => h.2.2.elim (fun h => k0 h.1) (fun h => ht h.2.1)⟩, st⟩
  have ht : f.e 12 = 2048 := by omega
  refine WC.condF rfl rfl ?_
  refine WC.skipF hK644 (fun _ _ h => h) ?_
  refine WC.seq fun K662 hK662 => ?_
  refine WC.seq fun K663 hK663 => ?_
  -- region 5
  refine WC.region ?_
  -- R5.0 14 := frame.go:139 move
  refine WL.v (by first | exact r_move (v := .pointer _) rfl | exact r_move rfl) rfl rfl rfl ?_
  -- R5.1 15 := frame.go:139 nilCheck
  refine WL.v (by exact r_nilCheck rfl) rfl rfl rfl ?_
  -- R5.2 16 := frame.go:139 fieldAddr
  refine WL.v (by exact r_field ty_fld43_0 rfl) rfl rfl rfl ?_
  -- R5.3 17 := frame.go:139 load
  refine WL.v (by first | exact r_load1 ty_one27 rfl (hrc [] _ st 0 (by decide)) | exact r_load1 ty_one27 rfl (hrc _ _ st 0 (by decide)) | exact r_load1 ty_one27 rfl (hrc [_] _ st 0 (by decide)) | exact r_load1 ty_one27 rfl (hrc [_, _] _ st 0 (by decide)) | exact r_load1 ty_one27 rfl (hrc [_, _, _] _ st 0 (by decide))) rfl rfl rfl ?_
  -- R5.4 18 := frame.go:139 binOp
  refine WL.v (by first | exact r_eql rfl rfl (decide_eq_true (by omega)) | exact r_eql rfl rfl (decide_eq_false (by omega)) | exact r_eql rfl rfl rfl) rfl rfl rfl ?_
  refine WL.fin hK663 (fun _ _ h => h) ?_
  refine WC.condF rfl rfl ?_
  refine WC.skipF hK662 (fun _ _ h => h) ?_
  refine WC.seq fun K664 hK664 => ?_
  refine WC.seq fun K665 hK665 => ?_
  -- region 9
  refine WC.region ?_
  -- R9.0 26 := frame.go:145 move
  refine WL.v (by first | exact r_move (v := .pointer _) rfl | exact r_move rfl) rfl rfl rfl ?_
  -- R9.1 27 := frame.go:145 nilCheck
  refine WL.v (by exact r_nilCheck rfl) rfl rfl rfl ?_
  -- R9.2 28 := frame.go:145 fieldAddr
  refine WL.v (by exact r_field ty_fld43_1 rfl) rfl rfl rfl ?_
  -- R9.3 29 := frame.go:145 fieldAddr
  refine WL.v (by exact r_field ty_fld32_2 rfl) rfl rfl rfl ?_
  -- R9.4 30 := frame.go:145 load
  refine WL.v (by first | exact r_load1 ty_one30 rfl (hrc [] _ st 13 (by decide)) | exact r_load1 ty_one30 rfl (hrc _ _ st 13 (by decide)) | exact r_load1 ty_one30 rfl (hrc [_] _ st 13 (by decide)) | exact r_load1 ty_one30 rfl (hrc [_, _] _ st 13 (by decide)) | exact r_load1 ty_one30 rfl (hrc [_, _, _] _ st 13 (by decide))) rfl rfl rfl ?_
  -- R9.5 31 := frame.go:145 binOp
  refine WL.v (by first | exact r_neq rfl rfl (decide_eq_true (by omega)) | exact r_neq rfl rfl (decide_eq_false (by omega)) | exact r_neq rfl rfl rfl) rfl rfl rfl ?_
  refine WL.fin hK665 (fun _ _ h => h) ?_
  refine WC.condF rfl rfl ?_
  refine WC.skipF hK664 (fun _ _ h => h) ?_
  refine WC.seq fun K666 hK666 => ?_
  refine WC.seq fun K667 hK667 => ?_
  -- region 11
  refine WC.region ?_
  -- R11.0 33 := frame.go:148 move
  refine WL.v (by first | exact r_move (v := .pointer _) rfl | exact r_move rfl) rfl rfl rfl ?_
  -- R11.1 34 := frame.go:148 nilCheck
  refine WL.v (by exact r_nilCheck rfl) rfl rfl rfl ?_
  -- R11.2 35 := frame.go:148 fieldAddr
  refine WL.v (by exact r_field ty_fld43_2 rfl) rfl rfl rfl ?_
  -- R11.3 36 := frame.go:148 call
  refine WL.call (r_call ty_call50 rfl) rfl rfl rfl (checkIp_ok hE b (o + 14) f.x f.s1 hf.xr hf.l1 (fun its w' q => (hr its w' q).ip) st) ?_
  rintro ev w ⟨hev, st⟩
  -- R11.4 3 := frame.go:148 assign
  refine WL.v (by first | exact r_assign (v := .nilIface) rfl | exact r_assign (v := .iface _ _) rfl | exact r_assign rfl) rfl rfl rfl ?_
  refine WL.fin hK667 (fun _ _ h => h) ?_
  rcases hev with ⟨rfl, hip⟩ | ⟨⟨T, u, rfl⟩, hip⟩
  · skip
    refine WC.seq fun K668 hK668 => ?_
    -- region 12
    refine WC.region ?_
    -- R12.0 37 := frame.go:148 move
    refine WL.v (by first | exact r_move (v := .nilIface) rfl | exact r_move (v := .iface _ _) rfl | exact r_move rfl) rfl rfl rfl ?_
    -- R12.1 38 := frame.go:148 binOp
    refine WL.v (by first | exact r_nil_neq ty_ifc47 rfl | exact r_some_neq ty_ifc47 rfl) rfl rfl rfl ?_
    refine WL.fin hK668 (fun _ _ h => h) ?_
    refine WC.condF rfl rfl ?_
    refine WC.skipF hK666 (fun _ _ h => h) ?_
    refine WC.seq fun K669 hK669 => ?_
    refine WC.seq fun K670 hK670 => ?_
    -- region 14
    refine WC.region ?_
    -- R14.0 40 := frame.go:151 move
    refine WL.v (by first | exact r_move (v := .pointer _) rfl | exact r_move rfl) rfl rfl rfl ?_
    -- R14.1 41 := frame.go:151 call
    refine WL.call (r_call ty_call51 rfl) rfl rfl rfl (checkInner_ok hE b o f hf hr st) ?_
    rintro ev2 w ⟨hev2, st⟩
    -- R14.2 4 := frame.go:151 assign
    refine WL.v (by first | exact r_assign (v := .nilIface) rfl | exact r_assign (v := .iface _ _) rfl | exact r_assign rfl) rfl rfl rfl ?_
    refine WL.fin hK670 (fun _ _ h => h) ?_
    rcases hev2 with ⟨rfl, hin⟩ | ⟨⟨T, u, rfl⟩, hin⟩
    · skip
      refine WC.seq fun K671 hK671 => ?_
      -- region 15
      refine WC.region ?_
      -- R15.0 42 := frame.go:151 move
      refine WL.v (by first | exact r_move (v := .nilIface) rfl | exact r_move (v := .iface _ _) rfl | exact r_move rfl) rfl rfl rfl ?_
      -- R15.1 43 := frame.go:151 binOp
      refine WL.v (by first | exact r_nil_neq ty_ifc47 rfl | exact r_some_neq ty_ifc47 rfl) rfl rfl rfl ?_
      refine WL.fin hK671 (fun _ _ h => h) ?_
      by_cases hlen : f.x 1 = ((20 + f.s1.bs.length + innerN f + f.s4.bs.length : Nat) : Int)
      · skip
        refine WC.condF rfl rfl ?_
        refine WC.skipF hK669 (fun _ _ h => h) ?_
        refine WC.seq fun K672 hK672 => ?_
        refine WC.seq fun K673 hK673 => ?_
        -- region 17 (draws)
        refine WC.quietS st ty_mixed (by kernel_rfl) fun Kq hKq => ?_
        -- R17.0 45 := frame.go:154 move
        refine QL.v (fun w st => by first | exact r_move (v := .pointer _) rfl | exact r_move rfl) rfl rfl rfl ?_
        -- R17.1 46 := frame.go:154 nilCheck
        refine QL.v (fun w st => by exact r_nilCheck rfl) rfl rfl rfl ?_
        -- R17.2 47 := frame.go:154 fieldAddr
        refine QL.v (fun w st => by exact r_field ty_fld43_2 rfl) rfl rfl rfl ?_
        -- R17.3 48 := frame.go:154 fieldAddr
        refine QL.v (fun w st => by exact r_field ty_fld36_1 rfl) rfl rfl rfl ?_
        -- R17.4 49 := frame.go:154 load
        refine QL.v (fun w st => by first | exact r_load1 ty_one30 rfl (hrc [] _ st 15 (by decide)) | exact r_load1 ty_one30 rfl (hrc _ _ st 15 (by decide)) | exact r_load1 ty_one30 rfl (hrc [_] _ st 15 (by decide)) | exact r_load1 ty_one30 rfl (hrc [_, _] _ st 15 (by decide)) | exact r_load1 ty_one30 rfl (hrc [_, _, _] _ st 15 (by decide))) rfl rfl rfl ?_
        -- R17.5 50 := frame.go:154 convert
        refine QL.v (fun w st => by first | exact r_conv ty_cv30_3 rfl (wi64 (by omega) (by omega)) | exact r_conv ty_cv30_3 rfl rfl) rfl rfl rfl ?_
        -- R17.6 51 := frame.go:154 move
        refine QL.v (fun w st => by first | exact r_move (v := .pointer _) rfl | exact r_move rfl) rfl rfl rfl ?_
        -- R17.7 52 := frame.go:154 nilCheck
        refine QL.v (fun w st => by exact r_nilCheck rfl) rfl rfl rfl ?_
        -- R17.8 53 := frame.go:154 fieldAddr
        refine QL.v (fun w st => by exact r_field ty_fld43_2 rfl) rfl rfl rfl ?_
        -- R17.9 54 := frame.go:154 call
        refine QL.call (val := .int .i64 ((20 + f.s1.bs.length : Nat) : Int)) (fun w st => r_call ty_call29 rfl) rfl rfl rfl (fun w st => ipLen_ok b (o + 14) f.x f.s1 hf.l1 (fun its w' q => (hr its w' q).ip) st) ?_
        -- R17.10 55 := frame.go:154 move
        refine QL.v (fun w st => by first | exact r_move (v := .pointer _) rfl | exact r_move rfl) rfl rfl rfl ?_
        -- R17.11 56 := frame.go:154 call
        refine QL.call (val := .int .i64 ((innerN f : Nat) : Int)) (fun w st => r_call ty_call52 rfl) rfl rfl rfl (fun w st => innerLen_ok b o f hf hr st) ?_
        -- R17.12 57 := frame.go:154 binOp
        refine QL.v (fun w st => by first | exact r_add rfl rfl (wi64 (by omega) (by omega)) | exact r_add rfl rfl rfl) rfl rfl rfl ?_
        -- R17.13 58 := frame.go:154 move
        refine QL.v (fun w st => by first | exact r_move (v := .pointer _) rfl | exact r_move rfl) rfl rfl rfl ?_
        -- R17.14 59 := frame.go:154 nilCheck
        refine QL.v (fun w st => by exact r_nilCheck rfl) rfl rfl rfl ?_
        -- R17.15 60 := frame.go:154 fieldAddr
        refine QL.v (fun w st => by exact r_field ty_fld43_5 rfl) rfl rfl rfl ?_
        -- R17.16 61 := frame.go:154 load
        refine QL.v (fun w st => by first | exact r_load1 ty_one25 rfl (hrc [] _ st 62 (by decide)) | exact r_load1 ty_one25 rfl (hrc _ _ st 62 (by decide)) | exact r_load1 ty_one25 rfl (hrc [_] _ st 62 (by decide)) | exact r_load1 ty_one25 rfl (hrc [_, _] _ st 62 (by decide)) | exact r_load1 ty_one25 rfl (hrc [_, _, _] _ st 62 (by decide))) rfl rfl rfl ?_
        -- R17.17 62 := frame.go:154 call
        refine QL.v (fun w st => by exact r_len ty_usl25 rfl) rfl rfl rfl ?_
        -- R17.18 63 := frame.go:154 binOp
        refine QL.v (fun w st => by first | exact r_add rfl rfl (wi64 (by omega) (by omega)) | exact r_add rfl rfl rfl) rfl rfl rfl ?_
        -- R17.19 64 := frame.go:154 binOp
        refine QL.v (fun w st => by first | exact r_neq rfl rfl (decide_eq_true (by omega)) | exact r_neq rfl rfl (decide_eq_false (by omega)) | exact r_neq rfl rfl rfl) rfl rfl rfl ?_
        refine QL.wl hKq fun w st => ?_
        refine WL.fin hK673 (fun _ _ h => h) ?_
        refine WC.condF rfl rfl ?_
        refine WC.skipF hK672 (fun _ _ h => h) ?_
        refine WC.seq fun K674 hK674 => ?_
        -- region 19
        refine WC.region ?_
        -- R19.0 2 := frame.go:157 assign
        refine WL.v (by first | exact r_assign (v := .nilIface) rfl | exact r_assign (v := .iface _ _) rfl | exact r_assign rfl) rfl rfl rfl ?_
        refine WL.fin hK674 (fun _ _ h => h) ?_
        refine WC.ret1 Tryd.results33 (fun _ _ h => h) rfl ?_
        exact ⟨_, rfl, .inl ⟨rfl, by omega, hs, .inr ⟨k0, ht, hip, hin, hlen⟩⟩, st⟩
      · skip
        refine WC.condF rfl rfl ?_
        refine WC.skipF hK669 (fun _ _ h => h) ?_
        refine WC.seq fun K675 hK675 => ?_
        refine WC.seq fun K676 hK676 => ?_
        -- region 17 (draws)
        refine WC.quietS st ty_mixed (by kernel_rfl) fun Kq hKq => ?_
        -- R17.0 45 := frame.go:154 move
        refine QL.v (fun w st => by first | exact r_move (v := .pointer _) rfl | exact r_move rfl) rfl rfl rfl ?_
        -- R17.1 46 := frame.go:154 nilCheck
        refine QL.v (fun w st => by exact r_nilCheck rfl) rfl rfl rfl ?_
        -- R17.2 47 := frame.go:154 fieldAddr
        refine QL.v (fun w st => by exact r_field ty_fld43_2 rfl) rfl rfl rfl ?_
        -- R17.3 48 := frame.go:154 fieldAddr
        refine QL.v (fun w st => by exact r_field ty_fld36_1 rfl) rfl rfl rfl ?_
        -- R17.4 49 := frame.go:154 load
        refine QL.v (fun w st => by first | exact r_load1 ty_one30 rfl (hrc [] _ st 15 (by decide)) | exact r_load1 ty_one30 rfl (hrc _ _ st 15 (by decide)) | exact r_load1 ty_one30 rfl (hrc [_] _ st 15 (by decide)) | exact r_load1 ty_one30 rfl (hrc [_, _] _ st 15 (by decide)) | exact r_load1 ty_one30 rfl (hrc [_, _, _] _ st 15 (by decide))) rfl rfl rfl ?_
        -- R17.5 50 := frame.go:154 convert
        refine QL.v (fun w st => by first | exact r_conv ty_cv30_3 rfl (wi64 (by omega) (by omega)) | exact r_conv ty_cv30_3 rfl rfl) rfl rfl rfl ?_
        -- R17.6 51 := frame.go:154 move
        refine QL.v (fun w st => by first | exact r_move (v := .pointer _) rfl | exact r_move rfl) rfl rfl rfl ?_
        -- R17.7 52 := frame.go:154 nilCheck
        refine QL.v (fun w st => by exact r_nilCheck rfl) rfl rfl rfl ?_
        -- R17.8 53 := frame.go:154 fieldAddr
        refine QL.v (fun w st => by exact r_field ty_fld43_2 rfl) rfl rfl rfl ?_
        -- R17.9 54 := frame.go:154 call
        refine QL.call (val := .int .i64 ((20 + f.s1.bs.length : Nat) : Int)) (fun w st => r_call ty_call29 rfl) rfl rfl rfl (fun w st => ipLen_ok b (o + 14) f.x f.s1 hf.l1 (fun its w' q => (hr its w' q).ip) st) ?_
        -- R17.10 55 := frame.go:154 move
        refine QL.v (fun w st => by first | exact r_move (v := .pointer _) rfl | exact r_move rfl) rfl rfl rfl ?_
        -- R17.11 56 := frame.go:154 call
        refine QL.call (val := .int .i64 ((innerN f : Nat) : Int)) (fun w st => r_call ty_call52 rfl) rfl rfl rfl (fun w st => innerLen_ok b o f hf hr st) ?_
        -- R17.12 57 := frame.go:154 binOp
        refine QL.v (fun w st => by first | exact r_add rfl rfl (wi64 (by omega) (by omega)) | exact r_add rfl rfl rfl) rfl rfl rfl ?_
        -- R17.13 58 := frame.go:154 move
        refine QL.v (fun w st => by first | exact r_move (v := .pointer _) rfl | exact r_move rfl) rfl rfl rfl ?_
        -- R17.14 59 := frame.go:154 nilCheck
        refine QL.v (fun w st => by exact r_nilCheck rfl) rfl rfl rfl ?_
        -- R17.15 60 := frame.go:154 fieldAddr
        refine QL.v (fun w st => by exact r_field ty_fld43_5 rfl) rfl rfl rfl ?_
        -- R17.16 61 := frame.go:154 load
        refine QL.v (fun w st => by first | exact r_load1 ty_one25 rfl (hrc [] _ st 62 (by decide)) | exact r_load1 ty_one25 rfl (hrc _ _ st 62 (by decide)) | exact r_load1 ty_one25 rfl (hrc [_] _ st 62 (by decide)) | exact r_load1 ty_one25 rfl (hrc [_, _] _ st 62 (by decide)) | exact r_load1 ty_one25 rfl (hrc [_, _, _] _ st 62 (by decide))) rfl rfl rfl ?_
        -- R17.17 62 := frame.go:154 call
        refine QL.v (fun w st => by exact r_len ty_usl25 rfl) rfl rfl rfl ?_
        -- R17.18 63 := frame.go:154 binOp
        refine QL.v (fun w st => by first | exact r_add rfl rfl (wi64 (by omega) (by omega)) | exact r_add rfl rfl rfl) rfl rfl rfl ?_
        -- R17.19 64 := frame.go:154 binOp
        refine QL.v (fun w st => by first | exact r_neq rfl rfl (decide_eq_true (by omega)) | exact r_neq rfl rfl (decide_eq_false (by omega)) | exact r_neq rfl rfl rfl) rfl rfl rfl ?_
        refine QL.wl hKq fun w st => ?_
        refine WL.fin hK676 (fun _ _ h => h) ?_
        refine WC.condT rfl rfl ?_
        refine WC.seq fun K677 hK677 => ?_
        -- region 18
        refine WC.region ?_
        -- R18.0 65 := frame.go:155 load
        refine WL.v (by exact r_load1 ty_one47 rfl (st.old (fun h => h) (hE 15 (by decide)))) rfl rfl rfl ?_
        -- R18.1 2 := frame.go:155 assign
        refine WL.v (by first | exact r_assign (v := .nilIface) rfl | exact r_assign (v := .iface _ _) rfl | exact r_assign rfl) rfl rfl rfl ?_
        refine WL.fin hK677 (fun _ _ h => h) ?_
        refine WC.ret1 Tryd.results33 (fun _ _ h => h) rfl ?_
        exact ⟨_, rfl, .inr ⟨⟨_, _, rfl⟩, fun h => h.2.2.elim (fun h => k0 h.1) (fun h => hlen h.2.2.2.2)⟩, st⟩
    · skip
      refine WC.seq fun K678 hK678 => ?_
      -- region 15
      refine WC.region ?_
      -- R15.0 42 := frame.go:151 move
      refine WL.v (by first | exact r_move (v := .nilIface) rfl | exact r_move (v := .iface _ _) rfl | exact r_move rfl) rfl rfl rfl ?_
      -- R15.1 43 := frame.go:151 binOp
      refine WL.v (by first | exact r_nil_neq ty_ifc47 rfl | exact r_some_neq ty_ifc47 rfl) rfl rfl rfl ?_
      refine WL.fin hK678 (fun _ _ h => h) ?_
      refine WC.condT rfl rfl ?_
      refine WC.seq fun K679 hK679 => ?_
      -- region 16
      refine WC.region ?_
      -- R16.0 44 := frame.go:152 move
      refine WL.v (by first | exact r_move (v := .nilIface) rfl | exact r_move (v := .iface _ _) rfl | exact r_move rfl) rfl rfl rfl ?_
      -- R16.1 2 := frame.go:152 assign
      refine WL.v (by first | exact r_assign (v := .nilIface) rfl | exact r_assign (v := .iface _ _) rfl | exact r_assign rfl) rfl rfl rfl ?_
      refine WL.fin hK679 (fun _ _ h => h) ?_
      refine WC.ret1 Tryd.results33 (fun _ _ h => h) rfl ?_
      exact ⟨_, rfl, .inr ⟨⟨_, _, rfl⟩, fun h => h.2.2.elim (fun h => k0 h.1) (fun h => hin h.2.2.2.1)⟩, st⟩
  · skip
    refine WC.seq fun K680 hK680 => ?_
    -- region 12
    refine WC.region ?_
    -- R12.0 37 := frame.go:148 move
    refine WL.v (by first | exact r_move (v := .nilIface) rfl | exact r_move (v := .iface _ _) rfl | exact r_move rfl) rfl rfl rfl ?_
    -- R12.1 38 := frame.go:148 binOp
    refine WL.v (by first | exact r_nil_neq ty_ifc47 rfl | exact r_some_neq ty_ifc47 rfl) rfl rfl rfl ?_
    refine WL.fin hK680 (fun _ _ h => h) ?_
    refine WC.condT rfl rfl ?_
    refine WC.seq fun K681 hK681 => ?_
    -- region 13
    refine WC.region ?_
    -- R13.0 39 := frame.go:149 move
    refine WL.v (by first | exact r_move (v := .nilIface) rfl | exact r_move (v := .iface _ _) rfl | exact r_move rfl) rfl rfl rfl ?_
    -- R13.1 2 := frame.go:149 assign
    refine WL.v (by first | exact r_assign (v := .nilIface) rfl | exact r_assign (v := .iface _ _) rfl | exact r_assign rfl) rfl rfl rfl ?_
    refine WL.fin hK681 (fun _ _ h => h) ?_
    refine WC.ret1 Tryd.results33 (fun _ _ h => h) rfl ?_
    exact ⟨_, rfl, .inr ⟨⟨_, _, rfl⟩, fun h => h.2.2.elim (fun h => k0 h.1) (fun h => hip h.2.2.1)⟩, st⟩

def frLenN (f : FD) : Nat := if f.k = 0 then 14 + f.s4.bs.length else 14 + (f.x 1).toNat + f.s5.bs.length

theorem frLen_ok (b o : Nat) (f : FD) (hf : f.ok) (hr : ∀ its w', S0 w0 (its ++ L) w' → FrAt w' b o f) (st : S0 w0 L w) :
    Calls Tryd.prog 35 #[.pointer (some ⟨b, o, none⟩)] w (Ret fun v w' => v = .int .i64 ((frLenN f : Nat) : Int) ∧ S0 w0 L w') := by
  have hrc := fun its w' q => (hr its w' q).c
  have h1 := hf.xr.r1
  have hl4 := hf.l4
  have hl5 := hf.l5
  by_cases k0 : f.k = 0
  · skip
    refine enter [.pointer (some ⟨b, o, none⟩)] Tryd.func35 rfl Tryd.ntmps35 rfl ?_
    show WC _ _ _ 27 [] [(0, .pointer (some ⟨b, o, none⟩))] _
    refine WC.seq fun K682 hK682 => ?_
    -- region 0
    refine WC.region ?_
    -- R0.0 2 := frame.go:161 assign
    refine WL.v (by first | exact r_assign (v := .int _ _) rfl | exact r_assign rfl) rfl rfl rfl ?_
    refine WL.fin hK682 (fun _ _ h => h) ?_
    refine WC.seq fun K683 hK683 => ?_
    refine WC.seq fun K684 hK684 => ?_
    -- region 1
    refine WC.region ?_
    -- R1.0 3 := frame.go:162 move
    refine WL.v (by first | exact r_move (v := .pointer _) rfl | exact r_move rfl) rfl rfl rfl ?_
    -- R1.1 4 := frame.go:162 nilCheck
    refine WL.v (by exact r_nilCheck rfl) rfl rfl rfl ?_
    -- R1.2 5 := frame.go:162 fieldAddr
    refine WL.v (by exact r_field ty_fld43_0 rfl) rfl rfl rfl ?_
    -- R1.3 6 := frame.go:162 load
    refine WL.v (by first | exact r_load1 ty_one27 rfl (hrc [] _ st 0 (by decide)) | exact r_load1 ty_one27 rfl (hrc _ _ st 0 (by decide)) | exact r_load1 ty_one27 rfl (hrc [_] _ st 0 (by decide)) | exact r_load1 ty_one27 rfl (hrc [_, _] _ st 0 (by decide)) | exact r_load1 ty_one27 rfl (hrc [_, _, _] _ st 0 (by decide))) rfl rfl rfl ?_
    -- R1.4 7 := frame.go:162 binOp
    refine WL.v (by first | exact r_eql rfl rfl (decide_eq_true (by omega)) | exact r_eql rfl rfl (decide_eq_false (by omega)) | exact r_eql rfl rfl rfl) rfl rfl rfl ?_
    refine WL.fin hK684 (fun _ _ h => h) ?_
    refine WC.condT rfl rfl ?_
    refine WC.seq fun K685 hK685 => ?_
    -- region 2
    refine WC.region ?_
    -- R2.0 8 := frame.go:163 move
    refine WL.v (by first | exact r_move (v := .pointer _) rfl | exact r_move rfl) rfl rfl rfl ?_
    -- R2.1 9 := frame.go:163 nilCheck
    refine WL.v (by exact r_nilCheck rfl) rfl rfl rfl ?_
    -- R2.2 10 := frame.go:163 fieldAddr
    refine WL.v (by exact r_field ty_fld43_5 rfl) rfl rfl rfl ?_
    -- R2.3 11 := frame.go:163 load
    refine WL.v (by first | exact r_load1 ty_one25 rfl (hrc [] _ st 62 (by decide)) | exact r_load1 ty_one25 rfl (hrc _ _ st 62 (by decide)) | exact r_load1 ty_one25 rfl (hrc [_] _ st 62 (by decide)) | exact r_load1 ty_one25 rfl (hrc [_, _] _ st 62 (by decide)) | exact r_load1 ty_one25 rfl (hrc [_, _, _] _ st 62 (by decide))) rfl rfl rfl ?_
    -- R2.4 12 := frame.go:163 call
    refine WL.v (by exact r_len ty_usl25 rfl) rfl rfl rfl ?_
    -- R2.5 13 := frame.go:163 binOp
    refine WL.v (by exact r_add (r := ((14 + f.s4.bs.length : Nat) : Int)) rfl rfl (by rw [wi64 (by omega) (by omega)]; omega)) rfl rfl rfl ?_
    -- R2.6 2 := frame.go:163 assign
    refine WL.v (by first | exact r_assign (v := .int _ _) rfl | exact r_assign rfl) rfl rfl rfl ?_
    refine WL.fin hK685 (fun _ _ h => h) ?_
    refine WC.ret1 Tryd.results35 (fun _ _ h => h) rfl ?_
    exact ⟨_, rfl, by unfold frLenN; rw [if_pos k0]; rfl, st⟩
  · skip
    refine enter [.pointer (some ⟨b, o, none⟩)] Tryd.func35 rfl Tryd.ntmps35 rfl ?_
    show WC _ _ _ 27 [] [(0, .pointer (some ⟨b, o, none⟩))] _
    refine WC.seq fun K686 hK686 => ?_
    -- region 0
    refine WC.region ?_
    -- R0.0 2 := frame.go:161 assign
    refine WL.v (by first | exact r_assign (v := .int _ _) rfl | exact r_assign rfl) rfl rfl rfl ?_
    refine WL.fin hK686 (fun _ _ h => h) ?_
    refine WC.seq fun K687 hK687 => ?_
    refine WC.seq fun K688 hK688 => ?_
    -- region 1
    refine WC.region ?_
    -- R1.0 3 := frame.go:162 move
    refine WL.v (by first | exact r_move (v := .pointer _) rfl | exact r_move rfl) rfl rfl rfl ?_
    -- R1.1 4 := frame.go:162 nilCheck
    refine WL.v (by exact r_nilCheck rfl) rfl rfl rfl ?_
    -- R1.2 5 := frame.go:162 fieldAddr
    refine WL.v (by exact r_field ty_fld43_0 rfl) rfl rfl rfl ?_
    -- R1.3 6 := frame.go:162 load
    refine WL.v (by first | exact r_load1 ty_one27 rfl (hrc [] _ st 0 (by decide)) | exact r_load1 ty_one27 rfl (hrc _ _ st 0 (by decide)) | exact r_load1 ty_one27 rfl (hrc [_] _ st 0 (by decide)) | exact r_load1 ty_one27 rfl (hrc [_, _] _ st 0 (by decide)) | exact r_load1 ty_one27 rfl (hrc [_, _, _] _ st 0 (by decide))) rfl rfl rfl ?_
    -- R1.4 7 := frame.go:162 binOp
    refine WL.v (by first | exact r_eql rfl rfl (decide_eq_true (by omega)) | exact r_eql rfl rfl (decide_eq_false (by omega)) | exact r_eql rfl rfl rfl) rfl rfl rfl ?_
    refine WL.fin hK688 (fun _ _ h => h) ?_
    refine WC.condF rfl rfl ?_
    refine WC.skipF hK687 (fun _ _ h => h) ?_
    refine WC.seq fun K689 hK689 => ?_
    -- region 3 (draws)
    refine WC.quietS st ty_mixed (by kernel_rfl) fun Kq hKq => ?_
    -- R3.0 14 := frame.go:165 move
    refine QL.v (fun w st => by first | exact r_move (v := .pointer _) rfl | exact r_move rfl) rfl rfl rfl ?_
    -- R3.1 15 := frame.go:165 nilCheck
    refine QL.v (fun w st => by exact r_nilCheck rfl) rfl rfl rfl ?_
    -- R3.2 16 := frame.go:165 fieldAddr
    refine QL.v (fun w st => by exact r_field ty_fld43_2 rfl) rfl rfl rfl ?_
    -- R3.3 17 := frame.go:165 fieldAddr
    refine QL.v (fun w st => by exact r_field ty_fld36_1 rfl) rfl rfl rfl ?_
    -- R3.4 18 := frame.go:165 load
    refine QL.v (fun w st => by first | exact r_load1 ty_one30 rfl (hrc [] _ st 15 (by decide)) | exact r_load1 ty_one30 rfl (hrc _ _ st 15 (by decide)) | exact r_load1 ty_one30 rfl (hrc [_] _ st 15 (by decide)) | exact r_load1 ty_one30 rfl (hrc [_, _] _ st 15 (by decide)) | exact r_load1 ty_one30 rfl (hrc [_, _, _] _ st 15 (by decide))) rfl rfl rfl ?_
    -- R3.5 19 := frame.go:165 convert
    refine QL.v (fun w st => by first | exact r_conv ty_cv30_3 rfl (wi64 (by omega) (by omega)) | exact r_conv ty_cv30_3 rfl rfl) rfl rfl rfl ?_
    -- R3.6 20 := frame.go:165 binOp
    refine QL.v (fun w st => by first | exact r_add rfl rfl (wi64 (by omega) (by omega)) | exact r_add rfl rfl rfl) rfl rfl rfl ?_
    -- R3.7 21 := frame.go:165 move
    refine QL.v (fun w st => by first | exact r_move (v := .pointer _) rfl | exact r_move rfl) rfl rfl rfl ?_
    -- R3.8 22 := frame.go:165 nilCheck
    refine QL.v (fun w st => by exact r_nilCheck rfl) rfl rfl rfl ?_
    -- R3.9 23 := frame.go:165 fieldAddr
    refine QL.v (fun w st => by exact r_field ty_fld43_6 rfl) rfl rfl rfl ?_
    -- R3.10 24 := frame.go:165 load
    refine QL.v (fun w st => by first | exact r_load1 ty_one25 rfl (hrc [] _ st 63 (by decide)) | exact r_load1 ty_one25 rfl (hrc _ _ st 63 (by decide)) | exact r_load1 ty_one25 rfl (hrc [_] _ st 63 (by decide)) | exact r_load1 ty_one25 rfl (hrc [_, _] _ st 63 (by decide)) | exact r_load1 ty_one25 rfl (hrc [_, _, _] _ st 63 (by decide))) rfl rfl rfl ?_
    -- R3.11 25 := frame.go:165 call
    refine QL.v (fun w st => by exact r_len ty_usl25 rfl) rfl rfl rfl ?_
    -- R3.12 26 := frame.go:165 binOp
    refine QL.v (fun w st => by exact r_add (r := ((14 + (f.x 1).toNat + f.s5.bs.length : Nat) : Int)) rfl rfl (by rw [wi64 (by omega) (by omega)]; omega)) rfl rfl rfl ?_
    -- R3.13 2 := frame.go:165 assign
    refine QL.v (fun w st => by first | exact r_assign (v := .int _ _) rfl | exact r_assign rfl) rfl rfl rfl ?_
    refine QL.wl hKq fun w st => ?_
    refine WL.fin hK689 (fun _ _ h => h) ?_
    refine WC.ret1 Tryd.results35 (fun _ _ h => h) rfl ?_
    exact ⟨_, rfl, by unfold frLenN; rw [if_neg k0]; rfl, st⟩
end Go.Proofs.Qxb6500841aDoor

