import Derived.Test.Qxb6500834aGreatDoorK90
set_option linter.unusedVariables false
set_option linter.unusedSimpArgs false
set_option maxRecDepth 20000
namespace Go.Proofs.Qxb6500834aGreatDoor
open Go.RowKit Go.E1 Go.Kern
variable {w0 : World} {l X : List HI} {w : World} {s s' s0 : KS} {t r N n : Nat} {qv qv' : Nat → Value}
variable {P : List PQ} {m : MR} {pv tv v : Value} {mb : Nat → Nat} {bm : Nat} {T : List (Nat × Nat × Nat)} {O : Nat → Nat → Option Nat} {held claim : Nat → Nat → Nat}
set_option maxHeartbeats 4000000 in
theorem callM2_ok {o : Kern.Op} (hk : o.kind = 2) (hC1 : -9223372036854775808 ≤ o.C) (hC2 : o.C < 9223372036854775808) (hD : gD w0) (hA : o.A = t) (hc : CallOK s t) (hB : KB N s) (hN : N + 100 ≤ 1000000) (hI : INV s) (hct : CT s) (hrel : RelP s P) (st : MK w0 bm mb s P l w) :
    Calls Tryz.prog 99 #[.pointer (some ⟨bm, 0, none⟩), .int .i64 (t : Nat), .agg (opL o).toArray] w (Ret fun v w' => v = .int .i64 (stepP s o).2.1 ∧ ∃ P', RelP (stepP s o).1 P' ∧ MK w0 bm mb (stepP s o).1 P' l w') := by
  obtain ⟨pv, XP, tv, XO, hp, ho, st⟩ := st
  have ht := hc.lt
  have hplen := hrel.len
  have hnn := hB.nn
  obtain ⟨R, hR1, hR2⟩ := mp_at (mb := mb) (D := odF s) ht
  have st : S0 w0 (mpE (mb t) (odF s t) :: (moI bm (mrOf s) pv tv mb :: (XP ++ (XO ++ (R ++ l))))) w := (st.perm ((((hR1.append_right l).append_left XO).append_left XP).cons _) : S0 w0 (moI bm (mrOf s) pv tv mb :: (XP ++ (XO ++ ((mpE (mb t) (odF s t) :: R) ++ l)))) w).perm (by classical exact List.perm_iff_count.2 fun x => by simp only [List.count_append, List.count_cons, List.count_nil, List.append_eq, List.cons_append, List.nil_append, List.append_assoc, Nat.add_zero, Nat.zero_add] <;> ac_rfl)
  have hcal : callerP s (t : Int) = 0 := by
    unfold callerP
    rw [if_neg (by omega), Int.toNat_natCast, hc.live, if_neg (by decide), hc.wait]; rfl
  have hnA : nameP o.A 16 = (t : Int) := by rw [hA]; exact nameP_eq (by omega)
  have htot := totP_le
  have eR : stepP s o = ((declareK s (t : Int) (nameP o.B 20) (nameP o.C 17)).1, (declareK s (t : Int) (nameP o.B 20) (nameP o.C 17)).2, -1) := by
    unfold stepP; rw [hk, ← hnA]; rfl
  by_cases hb : 0 ≤ o.B ∧ o.B < 20
  rotate_left
  · have hnB : nameP o.B 20 = -1 := if_pos (by omega)
    have eS : stepP s o = (s, 13, -1) := by
      rw [eR]; unfold declareK; rw [hcal, if_neg (by decide), hnB, if_pos (.inl (by decide))]
    refine enter [.pointer (some ⟨bm, 0, none⟩), .int .i64 (t : Nat), .agg (opL o).toArray] Tryz.func99 rfl Tryz.ntmps99 rfl ?_
    show WC _ _ _ 219 [] [(0, .pointer (some ⟨bm, 0, none⟩)), (1, .int .i64 (t : Nat)), (2, .agg (opL o).toArray)] _
    refine WC.seq fun K3669 hK3669 => ?_
    -- region 0
    refine WC.region ?_
    -- R0.0 5 := model.go:101 box
    refine WL.box (m := 5) (vs := opL o) st rfl rfl rfl rfl rfl rfl ?_
    intro b5 w st
    have st : S0 w0 ((b5, Row 28 5 (nth (opL o))) :: mpE (mb t) (odF s t) :: (moI bm (mrOf s) pv tv mb :: (XP ++ (XO ++ (R ++ l))))) w := st
    -- R0.1 6 := model.go:101 assign
    refine WL.v (by first | exact r_assign (v := .int _ _) rfl | exact r_assign rfl) rfl rfl rfl ?_
    refine WL.fin hK3669 (fun _ _ h => h) ?_
    refine WC.seq fun K3670 hK3670 => ?_
    refine WC.seq fun K3671 hK3671 => ?_
    -- region 1
    refine WC.region ?_
    -- R1.0 13 := model.go:102 fieldAddr
    refine WL.v (by exact r_field ty_fld28_0 rfl) rfl rfl rfl ?_
    -- R1.1 14 := model.go:102 load
    refine WL.v (by exact r_load1 (v := .int .u8 (o.kind : Nat)) ty_one25 rfl (st.c0 (by decide))) rfl rfl rfl ?_
    refine WL.fin hK3671 (fun _ _ h => h) ?_
    refine WC.block ?_
    refine WC.seq fun K3672 hK3672 => ?_
    -- region 2
    refine WC.region ?_
    -- R2.0 16 := model.go:103 binOp
    refine WL.v (by exact r_eql rfl rfl (decide_eq_false (by omega))) rfl rfl rfl ?_
    -- R2.1 15 := model.go:103 assign
    refine WL.v (by first | exact r_assign (v := .bool _) rfl | exact r_assign rfl) rfl rfl rfl ?_
    refine WL.fin hK3672 (fun _ _ h => h) ?_
    refine WC.condF rfl rfl ?_
    refine WC.seq fun K3673 hK3673 => ?_
    -- region 6
    refine WC.region ?_
    -- R6.0 29 := model.go:107 binOp
    refine WL.v (by exact r_eql rfl rfl (decide_eq_false (by omega))) rfl rfl rfl ?_
    -- R6.1 28 := model.go:107 assign
    refine WL.v (by first | exact r_assign (v := .bool _) rfl | exact r_assign rfl) rfl rfl rfl ?_
    refine WL.fin hK3673 (fun _ _ h => h) ?_
    refine WC.condF rfl rfl ?_
    refine WC.seq fun K3674 hK3674 => ?_
    -- region 14
    refine WC.region ?_
    -- R14.0 76 := model.go:115 binOp
    refine WL.v (by exact r_eql rfl rfl (decide_eq_false (by omega))) rfl rfl rfl ?_
    -- R14.1 75 := model.go:115 assign
    refine WL.v (by first | exact r_assign (v := .bool _) rfl | exact r_assign rfl) rfl rfl rfl ?_
    refine WL.fin hK3674 (fun _ _ h => h) ?_
    refine WC.condF rfl rfl ?_
    refine WC.skipF hK3670 (fun _ _ h => h) ?_
    refine WC.seq fun K3675 hK3675 => ?_
    refine WC.seq fun K3676 hK3676 => ?_
    -- region 28
    refine WC.region ?_
    -- R28.0 143 := model.go:133 fieldAddr
    refine WL.v (by exact r_field ty_fld28_2 rfl) rfl rfl rfl ?_
    -- R28.1 144 := model.go:133 load
    refine WL.v (by exact r_load1 (v := .int .i64 o.B) ty_one2 rfl (st.c0 (by decide))) rfl rfl rfl ?_
    -- R28.2 145 := model.go:133 call
    refine WL.call (r_call ty_call93 rfl) rfl rfl rfl (withinM_ok (v := o.B) (n := 20) st) ?_
    rintro _ w ⟨he, st⟩
    have he : _ = Value.bool false := he.trans (by unfold wiP; rw [decide_eq_false hb])
    subst he
    -- R28.3 146 := model.go:133 unOp
    refine WL.v (by first | exact r_notT rfl | exact r_notF rfl | exact r_not rfl) rfl rfl rfl ?_
    refine WL.fin hK3676 (fun _ _ h => h) ?_
    refine WC.condT rfl rfl ?_
    refine WC.seq fun K3677 hK3677 => ?_
    -- region 29
    refine WC.region ?_
    -- R29.0 6 := model.go:134 assign
    refine WL.v (by first | exact r_assign (v := .int _ _) rfl | exact r_assign rfl) rfl rfl rfl ?_
    refine WL.fin hK3677 (fun _ _ h => h) ?_
    refine WC.ret1 Tryz.results99 (fun _ _ h => h) rfl ?_
    exact ⟨_, rfl, by rw [eS]; rfl, P, by rw [eS]; exact hrel, by rw [eS]; exact ⟨pv, XP, tv, XO, hp, ho, ((st.drop.perm (by classical exact List.perm_iff_count.2 fun x => by simp only [List.count_append, List.count_cons, List.count_nil, List.append_eq, List.cons_append, List.nil_append, List.append_assoc, Nat.add_zero, Nat.zero_add] <;> ac_rfl) : S0 w0 (moI bm (mrOf s) pv tv mb :: (XP ++ (XO ++ ((mpE (mb t) (odF s t) :: R) ++ l)))) _).perm ((((hR1.symm.append_right l).append_left XO).append_left XP).cons _))⟩⟩
  obtain ⟨r, hr⟩ : ∃ r : Nat, o.B = r := ⟨o.B.toNat, by omega⟩
  have hr20 : r < 20 := by omega
  have htr := htot r
  have hnB : nameP o.B 20 = (r : Int) := by rw [hr]; exact nameP_eq (by omega)
  have eP : declareK s (t : Int) (nameP o.B 20) (nameP o.C 17) = ({ s with claim := if declareP r (nameP o.C 17) (decide (0 < (heldByP s.held t).length)) = 0 then upd2 s.claim t r (nameP o.C 17).toNat else s.claim }, declareP r (nameP o.C 17) (decide (0 < (heldByP s.held t).length))) := by
    unfold declareK
    rw [hcal, if_neg (by decide), hnB, if_neg (by omega), Int.toNat_natCast, Int.toNat_natCast]
  by_cases hC : 0 ≤ o.C ∧ o.C < (totP r : Int) + 1
  rotate_left
  · have hd : declareP r (nameP o.C 17) (decide (0 < (heldByP s.held t).length)) = 21 := by
      unfold declareP
      refine if_pos ?_
      unfold nameP
      split
      · exact .inl (by decide)
      · omega
    have eS : stepP s o = (s, 21, -1) := by rw [eR, eP, hd]; rfl
    refine enter [.pointer (some ⟨bm, 0, none⟩), .int .i64 (t : Nat), .agg (opL o).toArray] Tryz.func99 rfl Tryz.ntmps99 rfl ?_
    show WC _ _ _ 219 [] [(0, .pointer (some ⟨bm, 0, none⟩)), (1, .int .i64 (t : Nat)), (2, .agg (opL o).toArray)] _
    refine WC.seq fun K3678 hK3678 => ?_
    -- region 0
    refine WC.region ?_
    -- R0.0 5 := model.go:101 box
    refine WL.box (m := 5) (vs := opL o) st rfl rfl rfl rfl rfl rfl ?_
    intro b5 w st
    have st : S0 w0 ((b5, Row 28 5 (nth (opL o))) :: mpE (mb t) (odF s t) :: (moI bm (mrOf s) pv tv mb :: (XP ++ (XO ++ (R ++ l))))) w := st
    -- R0.1 6 := model.go:101 assign
    refine WL.v (by first | exact r_assign (v := .int _ _) rfl | exact r_assign rfl) rfl rfl rfl ?_
    refine WL.fin hK3678 (fun _ _ h => h) ?_
    refine WC.seq fun K3679 hK3679 => ?_
    refine WC.seq fun K3680 hK3680 => ?_
    -- region 1
    refine WC.region ?_
    -- R1.0 13 := model.go:102 fieldAddr
    refine WL.v (by exact r_field ty_fld28_0 rfl) rfl rfl rfl ?_
    -- R1.1 14 := model.go:102 load
    refine WL.v (by exact r_load1 (v := .int .u8 (o.kind : Nat)) ty_one25 rfl (st.c0 (by decide))) rfl rfl rfl ?_
    refine WL.fin hK3680 (fun _ _ h => h) ?_
    refine WC.block ?_
    refine WC.seq fun K3681 hK3681 => ?_
    -- region 2
    refine WC.region ?_
    -- R2.0 16 := model.go:103 binOp
    refine WL.v (by exact r_eql rfl rfl (decide_eq_false (by omega))) rfl rfl rfl ?_
    -- R2.1 15 := model.go:103 assign
    refine WL.v (by first | exact r_assign (v := .bool _) rfl | exact r_assign rfl) rfl rfl rfl ?_
    refine WL.fin hK3681 (fun _ _ h => h) ?_
    refine WC.condF rfl rfl ?_
    refine WC.seq fun K3682 hK3682 => ?_
    -- region 6
    refine WC.region ?_
    -- R6.0 29 := model.go:107 binOp
    refine WL.v (by exact r_eql rfl rfl (decide_eq_false (by omega))) rfl rfl rfl ?_
    -- R6.1 28 := model.go:107 assign
    refine WL.v (by first | exact r_assign (v := .bool _) rfl | exact r_assign rfl) rfl rfl rfl ?_
    refine WL.fin hK3682 (fun _ _ h => h) ?_
    refine WC.condF rfl rfl ?_
    refine WC.seq fun K3683 hK3683 => ?_
    -- region 14
    refine WC.region ?_
    -- R14.0 76 := model.go:115 binOp
    refine WL.v (by exact r_eql rfl rfl (decide_eq_false (by omega))) rfl rfl rfl ?_
    -- R14.1 75 := model.go:115 assign
    refine WL.v (by first | exact r_assign (v := .bool _) rfl | exact r_assign rfl) rfl rfl rfl ?_
    refine WL.fin hK3683 (fun _ _ h => h) ?_
    refine WC.condF rfl rfl ?_
    refine WC.skipF hK3679 (fun _ _ h => h) ?_
    refine WC.seq fun K3684 hK3684 => ?_
    refine WC.seq fun K3685 hK3685 => ?_
    -- region 28
    refine WC.region ?_
    -- R28.0 143 := model.go:133 fieldAddr
    refine WL.v (by exact r_field ty_fld28_2 rfl) rfl rfl rfl ?_
    -- R28.1 144 := model.go:133 load
    refine WL.v (by exact r_load1 (v := .int .i64 o.B) ty_one2 rfl (st.c0 (by decide))) rfl rfl rfl ?_
    -- R28.2 145 := model.go:133 call
    refine WL.call (r_call ty_call93 rfl) rfl rfl rfl (withinM_ok (v := o.B) (n := 20) st) ?_
    rintro _ w ⟨he, st⟩
    have he : _ = Value.bool true := he.trans (by unfold wiP; rw [decide_eq_true hb])
    subst he
    -- R28.3 146 := model.go:133 unOp
    refine WL.v (by first | exact r_notT rfl | exact r_notF rfl | exact r_not rfl) rfl rfl rfl ?_
    refine WL.fin hK3685 (fun _ _ h => h) ?_
    refine WC.condF rfl rfl ?_
    refine WC.skipF hK3684 (fun _ _ h => h) ?_
    refine WC.seq fun K3686 hK3686 => ?_
    -- region 30
    refine WC.region ?_
    -- R30.0 147 := model.go:136 fieldAddr
    refine WL.v (by exact r_field ty_fld28_2 rfl) rfl rfl rfl ?_
    -- R30.1 148 := model.go:136 load
    refine WL.v (by exact r_load1 (v := .int .i64 (r : Nat)) ty_one2 rfl (by rw [← hr]; exact st.c0 (by decide))) rfl rfl rfl ?_
    -- R30.2 10 := model.go:136 assign
    refine WL.v (by first | exact r_assign (v := .int _ _) rfl | exact r_assign rfl) rfl rfl rfl ?_
    refine WL.fin hK3686 (fun _ _ h => h) ?_
    refine WC.seq fun K3687 hK3687 => ?_
    refine WC.seq fun K3688 hK3688 => ?_
    -- region 31
    refine WC.region ?_
    -- R31.0 149 := model.go:137 fieldAddr
    refine WL.v (by exact r_field ty_fld28_0 rfl) rfl rfl rfl ?_
    -- R31.1 150 := model.go:137 load
    refine WL.v (by exact r_load1 (v := .int .u8 (o.kind : Nat)) ty_one25 rfl (st.c0 (by decide))) rfl rfl rfl ?_
    refine WL.fin hK3688 (fun _ _ h => h) ?_
    refine WC.block ?_
    refine WC.seq fun K3689 hK3689 => ?_
    -- region 32
    refine WC.region ?_
    -- R32.0 152 := model.go:138 binOp
    refine WL.v (by exact r_eql rfl rfl (decide_eq_true (by omega))) rfl rfl rfl ?_
    -- R32.1 151 := model.go:138 assign
    refine WL.v (by first | exact r_assign (v := .bool _) rfl | exact r_assign rfl) rfl rfl rfl ?_
    refine WL.fin hK3689 (fun _ _ h => h) ?_
    refine WC.condT rfl rfl ?_
    refine WC.seq fun K3690 hK3690 => ?_
    refine WC.seq fun K3691 hK3691 => ?_
    -- region 33 (draws)
    refine WC.quietS st ty_mixed (by kernel_rfl) fun Kq hKq => ?_
    -- R33.0 153 := model.go:139 fieldAddr
    refine QL.v (fun w st => by exact r_field ty_fld28_3 rfl) rfl rfl rfl ?_
    -- R33.1 154 := model.go:139 load
    refine QL.v (fun w st => by exact r_load1 (v := .int .i64 o.C) ty_one2 rfl (st.c0 (by decide))) rfl rfl rfl ?_
    -- R33.2 155 := model.go:139 move
    refine QL.v (fun w st => by first | exact r_move (v := .int _ _) rfl | exact r_move rfl) rfl rfl rfl ?_
    -- R33.3 156 := model.go:139 call
    refine QL.call (val := .int .i64 (totP r : Nat)) (fun w st => r_call ty_call58 rfl) rfl rfl rfl (fun w st => total_ok (r := r) st) ?_
    -- R33.4 157 := model.go:139 binOp
    refine QL.v (fun w st => by exact r_add (r := (totP r : Int) + 1) rfl rfl (wi64 (by omega) (by omega))) rfl rfl rfl ?_
    -- R33.5 158 := model.go:139 call
    refine QL.call (val := .bool false) (fun w st => r_call ty_call93 rfl) rfl rfl rfl (fun w st => (withinM_ok st).mono (by rintro _ _ ⟨v, rfl, rfl, st⟩; exact ⟨_, rfl, by unfold wiP; rw [decide_eq_false hC], st⟩)) ?_
    -- R33.6 159 := model.go:139 unOp
    refine QL.v (fun w st => by first | exact r_notT rfl | exact r_notF rfl | exact r_not rfl) rfl rfl rfl ?_
    refine QL.wl hKq fun w st => ?_
    refine WL.fin hK3691 (fun _ _ h => h) ?_
    refine WC.condT rfl rfl ?_
    refine WC.seq fun K3692 hK3692 => ?_
    -- region 34
    refine WC.region ?_
    -- R34.0 6 := model.go:140 assign
    refine WL.v (by first | exact r_assign (v := .int _ _) rfl | exact r_assign rfl) rfl rfl rfl ?_
    refine WL.fin hK3692 (fun _ _ h => h) ?_
    refine WC.ret1 Tryz.results99 (fun _ _ h => h) rfl ?_
    exact ⟨_, rfl, by rw [eS]; rfl, P, by rw [eS]; exact hrel, by rw [eS]; exact ⟨pv, XP, tv, XO, hp, ho, ((st.drop.perm (by classical exact List.perm_iff_count.2 fun x => by simp only [List.count_append, List.count_cons, List.count_nil, List.append_eq, List.cons_append, List.nil_append, List.append_assoc, Nat.add_zero, Nat.zero_add] <;> ac_rfl) : S0 w0 (moI bm (mrOf s) pv tv mb :: (XP ++ (XO ++ ((mpE (mb t) (odF s t) :: R) ++ l)))) _).perm ((((hR1.symm.append_right l).append_left XO).append_left XP).cons _))⟩⟩
  obtain ⟨u, hu⟩ : ∃ u : Nat, o.C = u := ⟨o.C.toNat, by omega⟩
  have hnC : nameP o.C 17 = (u : Int) := by rw [hu]; exact nameP_eq (by omega)
  by_cases hh : ∀ r, r < 20 → s.held t r = 0
  rotate_left
  · have hl : 0 < (heldByP s.held t).length := by
      cases hx : heldByP s.held t with
      | nil => exact absurd (heldBy_nil.1 hx) hh
      | cons a b => exact Nat.succ_pos _
    have hd : declareP r (nameP o.C 17) (decide (0 < (heldByP s.held t).length)) = 22 := by
      rw [hnC]; unfold declareP
      rw [if_neg (by omega), decide_eq_true hl]; rfl
    have eS : stepP s o = (s, 22, -1) := by rw [eR, eP, hd]; rfl
    refine enter [.pointer (some ⟨bm, 0, none⟩), .int .i64 (t : Nat), .agg (opL o).toArray] Tryz.func99 rfl Tryz.ntmps99 rfl ?_
    show WC _ _ _ 219 [] [(0, .pointer (some ⟨bm, 0, none⟩)), (1, .int .i64 (t : Nat)), (2, .agg (opL o).toArray)] _
    refine WC.seq fun K3693 hK3693 => ?_
    -- region 0
    refine WC.region ?_
    -- R0.0 5 := model.go:101 box
    refine WL.box (m := 5) (vs := opL o) st rfl rfl rfl rfl rfl rfl ?_
    intro b5 w st
    have st : S0 w0 ((b5, Row 28 5 (nth (opL o))) :: mpE (mb t) (odF s t) :: (moI bm (mrOf s) pv tv mb :: (XP ++ (XO ++ (R ++ l))))) w := st
    -- R0.1 6 := model.go:101 assign
    refine WL.v (by first | exact r_assign (v := .int _ _) rfl | exact r_assign rfl) rfl rfl rfl ?_
    refine WL.fin hK3693 (fun _ _ h => h) ?_
    refine WC.seq fun K3694 hK3694 => ?_
    refine WC.seq fun K3695 hK3695 => ?_
    -- region 1
    refine WC.region ?_
    -- R1.0 13 := model.go:102 fieldAddr
    refine WL.v (by exact r_field ty_fld28_0 rfl) rfl rfl rfl ?_
    -- R1.1 14 := model.go:102 load
    refine WL.v (by exact r_load1 (v := .int .u8 (o.kind : Nat)) ty_one25 rfl (st.c0 (by decide))) rfl rfl rfl ?_
    refine WL.fin hK3695 (fun _ _ h => h) ?_
    refine WC.block ?_
    refine WC.seq fun K3696 hK3696 => ?_
    -- region 2
    refine WC.region ?_
    -- R2.0 16 := model.go:103 binOp
    refine WL.v (by exact r_eql rfl rfl (decide_eq_false (by omega))) rfl rfl rfl ?_
    -- R2.1 15 := model.go:103 assign
    refine WL.v (by first | exact r_assign (v := .bool _) rfl | exact r_assign rfl) rfl rfl rfl ?_
    refine WL.fin hK3696 (fun _ _ h => h) ?_
    refine WC.condF rfl rfl ?_
    refine WC.seq fun K3697 hK3697 => ?_
    -- region 6
    refine WC.region ?_
    -- R6.0 29 := model.go:107 binOp
    refine WL.v (by exact r_eql rfl rfl (decide_eq_false (by omega))) rfl rfl rfl ?_
    -- R6.1 28 := model.go:107 assign
    refine WL.v (by first | exact r_assign (v := .bool _) rfl | exact r_assign rfl) rfl rfl rfl ?_
    refine WL.fin hK3697 (fun _ _ h => h) ?_
    refine WC.condF rfl rfl ?_
    refine WC.seq fun K3698 hK3698 => ?_
    -- region 14
    refine WC.region ?_
    -- R14.0 76 := model.go:115 binOp
    refine WL.v (by exact r_eql rfl rfl (decide_eq_false (by omega))) rfl rfl rfl ?_
    -- R14.1 75 := model.go:115 assign
    refine WL.v (by first | exact r_assign (v := .bool _) rfl | exact r_assign rfl) rfl rfl rfl ?_
    refine WL.fin hK3698 (fun _ _ h => h) ?_
    refine WC.condF rfl rfl ?_
    refine WC.skipF hK3694 (fun _ _ h => h) ?_
    refine WC.seq fun K3699 hK3699 => ?_
    refine WC.seq fun K3700 hK3700 => ?_
    -- region 28
    refine WC.region ?_
    -- R28.0 143 := model.go:133 fieldAddr
    refine WL.v (by exact r_field ty_fld28_2 rfl) rfl rfl rfl ?_
    -- R28.1 144 := model.go:133 load
    refine WL.v (by exact r_load1 (v := .int .i64 o.B) ty_one2 rfl (st.c0 (by decide))) rfl rfl rfl ?_
    -- R28.2 145 := model.go:133 call
    refine WL.call (r_call ty_call93 rfl) rfl rfl rfl (withinM_ok (v := o.B) (n := 20) st) ?_
    rintro _ w ⟨he, st⟩
    have he : _ = Value.bool true := he.trans (by unfold wiP; rw [decide_eq_true hb])
    subst he
    -- R28.3 146 := model.go:133 unOp
    refine WL.v (by first | exact r_notT rfl | exact r_notF rfl | exact r_not rfl) rfl rfl rfl ?_
    refine WL.fin hK3700 (fun _ _ h => h) ?_
    refine WC.condF rfl rfl ?_
    refine WC.skipF hK3699 (fun _ _ h => h) ?_
    refine WC.seq fun K3701 hK3701 => ?_
    -- region 30
    refine WC.region ?_
    -- R30.0 147 := model.go:136 fieldAddr
    refine WL.v (by exact r_field ty_fld28_2 rfl) rfl rfl rfl ?_
    -- R30.1 148 := model.go:136 load
    refine WL.v (by exact r_load1 (v := .int .i64 (r : Nat)) ty_one2 rfl (by rw [← hr]; exact st.c0 (by decide))) rfl rfl rfl ?_
    -- R30.2 10 := model.go:136 assign
    refine WL.v (by first | exact r_assign (v := .int _ _) rfl | exact r_assign rfl) rfl rfl rfl ?_
    refine WL.fin hK3701 (fun _ _ h => h) ?_
    refine WC.seq fun K3702 hK3702 => ?_
    refine WC.seq fun K3703 hK3703 => ?_
    -- region 31
    refine WC.region ?_
    -- R31.0 149 := model.go:137 fieldAddr
    refine WL.v (by exact r_field ty_fld28_0 rfl) rfl rfl rfl ?_
    -- R31.1 150 := model.go:137 load
    refine WL.v (by exact r_load1 (v := .int .u8 (o.kind : Nat)) ty_one25 rfl (st.c0 (by decide))) rfl rfl rfl ?_
    refine WL.fin hK3703 (fun _ _ h => h) ?_
    refine WC.block ?_
    refine WC.seq fun K3704 hK3704 => ?_
    -- region 32
    refine WC.region ?_
    -- R32.0 152 := model.go:138 binOp
    refine WL.v (by exact r_eql rfl rfl (decide_eq_true (by omega))) rfl rfl rfl ?_
    -- R32.1 151 := model.go:138 assign
    refine WL.v (by first | exact r_assign (v := .bool _) rfl | exact r_assign rfl) rfl rfl rfl ?_
    refine WL.fin hK3704 (fun _ _ h => h) ?_
    refine WC.condT rfl rfl ?_
    refine WC.seq fun K3705 hK3705 => ?_
    refine WC.seq fun K3706 hK3706 => ?_
    -- region 33 (draws)
    refine WC.quietS st ty_mixed (by kernel_rfl) fun Kq hKq => ?_
    -- R33.0 153 := model.go:139 fieldAddr
    refine QL.v (fun w st => by exact r_field ty_fld28_3 rfl) rfl rfl rfl ?_
    -- R33.1 154 := model.go:139 load
    refine QL.v (fun w st => by exact r_load1 (v := .int .i64 o.C) ty_one2 rfl (st.c0 (by decide))) rfl rfl rfl ?_
    -- R33.2 155 := model.go:139 move
    refine QL.v (fun w st => by first | exact r_move (v := .int _ _) rfl | exact r_move rfl) rfl rfl rfl ?_
    -- R33.3 156 := model.go:139 call
    refine QL.call (val := .int .i64 (totP r : Nat)) (fun w st => r_call ty_call58 rfl) rfl rfl rfl (fun w st => total_ok (r := r) st) ?_
    -- R33.4 157 := model.go:139 binOp
    refine QL.v (fun w st => by exact r_add (r := (totP r : Int) + 1) rfl rfl (wi64 (by omega) (by omega))) rfl rfl rfl ?_
    -- R33.5 158 := model.go:139 call
    refine QL.call (val := .bool true) (fun w st => r_call ty_call93 rfl) rfl rfl rfl (fun w st => (withinM_ok st).mono (by rintro _ _ ⟨v, rfl, rfl, st⟩; exact ⟨_, rfl, by unfold wiP; rw [decide_eq_true hC], st⟩)) ?_
    -- R33.6 159 := model.go:139 unOp
    refine QL.v (fun w st => by first | exact r_notT rfl | exact r_notF rfl | exact r_not rfl) rfl rfl rfl ?_
    refine QL.wl hKq fun w st => ?_
    refine WL.fin hK3706 (fun _ _ h => h) ?_
    refine WC.condF rfl rfl ?_
    refine WC.skipF hK3705 (fun _ _ h => h) ?_
    refine WC.seq fun K3707 hK3707 => ?_
    refine WC.seq fun K3708 hK3708 => ?_
    -- region 35
    refine WC.region ?_
    -- R35.0 160 := model.go:142 move
    refine WL.v (by first | exact r_move (v := .pointer _) rfl | exact r_move rfl) rfl rfl rfl ?_
    -- R35.1 161 := model.go:142 move
    refine WL.v (by first | exact r_move (v := .int _ _) rfl | exact r_move rfl) rfl rfl rfl ?_
    -- R35.2 162 := model.go:142 nilCheck
    refine WL.v (by exact r_nilCheck rfl) rfl rfl rfl ?_
    -- R35.3 163 := model.go:142 fieldAddr
    refine WL.v (by exact r_field ty_fld98_7 rfl) rfl rfl rfl ?_
    -- R35.4 164 := model.go:142 indexAddr
    refine WL.v (by exact r_indexA (j := t) ty_ar45 rfl rfl rfl ht) rfl rfl rfl ?_
    -- R35.5 165 := model.go:142 load
    refine WL.v (by exact r_loadN (f := (fun r => .int .i64 (s.held t r : Nat))) ty_agg44 rfl (fun k hk => c_mheld (m := mrOf s) (List.mem_cons_of_mem _ (List.mem_cons_of_mem _ List.mem_cons_self)) ht hk (by omega) st)) rfl rfl rfl ?_
    -- R35.6 166 := model.go:142 build
    refine WL.v (by exact r_buildN (n := 20) (z := fun _ => .int .i64 0) (v := fun _ => .int .i64 0) (ps := []) ty_pl44 ty_zeroN44 rfl fill_nil) rfl rfl rfl ?_
    -- R35.7 167 := model.go:142 binOp
    refine WL.v (by exact r_aneq (n := 20) (F := fun r => .int .i64 (s.held t r : Nat)) (G := fun _ => .int .i64 0) (t := true) eqH List.length_replicate rfl rfl (fun i hi => by rw [rep_get hi]; exact KFit.int) ⟨(fun k => by cases k), fun k => absurd (fun r hr => by have := k r hr; injection this with _ h2; omega) hh⟩) rfl rfl rfl ?_
    refine WL.fin hK3708 (fun _ _ h => h) ?_
    refine WC.condT rfl rfl ?_
    refine WC.seq fun K3709 hK3709 => ?_
    -- region 36
    refine WC.region ?_
    -- R36.0 6 := model.go:143 assign
    refine WL.v (by first | exact r_assign (v := .int _ _) rfl | exact r_assign rfl) rfl rfl rfl ?_
    refine WL.fin hK3709 (fun _ _ h => h) ?_
    refine WC.ret1 Tryz.results99 (fun _ _ h => h) rfl ?_
    exact ⟨_, rfl, by rw [eS]; rfl, P, by rw [eS]; exact hrel, by rw [eS]; exact ⟨pv, XP, tv, XO, hp, ho, ((st.drop.perm (by classical exact List.perm_iff_count.2 fun x => by simp only [List.count_append, List.count_cons, List.count_nil, List.append_eq, List.cons_append, List.nil_append, List.append_assoc, Nat.add_zero, Nat.zero_add] <;> ac_rfl) : S0 w0 (moI bm (mrOf s) pv tv mb :: (XP ++ (XO ++ ((mpE (mb t) (odF s t) :: R) ++ l)))) _).perm ((((hR1.symm.append_right l).append_left XO).append_left XP).cons _))⟩⟩
  have hl : heldByP s.held t = [] := heldBy_nil.2 hh
  have hd : declareP r (nameP o.C 17) (decide (0 < (heldByP s.held t).length)) = 0 := by
    rw [hnC]; unfold declareP
    rw [if_neg (by omega), hl]; rfl
  have eS : stepP s o = ({ s with claim := upd2 s.claim t r u }, 0, -1) := by rw [eR, eP, hd, if_pos rfl, hnC, Int.toNat_natCast]
  refine enter [.pointer (some ⟨bm, 0, none⟩), .int .i64 (t : Nat), .agg (opL o).toArray] Tryz.func99 rfl Tryz.ntmps99 rfl ?_
  show WC _ _ _ 219 [] [(0, .pointer (some ⟨bm, 0, none⟩)), (1, .int .i64 (t : Nat)), (2, .agg (opL o).toArray)] _
  refine WC.seq fun K3710 hK3710 => ?_
  -- region 0
  refine WC.region ?_
  -- R0.0 5 := model.go:101 box
  refine WL.box (m := 5) (vs := opL o) st rfl rfl rfl rfl rfl rfl ?_
  intro b5 w st
  have st : S0 w0 ((b5, Row 28 5 (nth (opL o))) :: mpE (mb t) (odF s t) :: (moI bm (mrOf s) pv tv mb :: (XP ++ (XO ++ (R ++ l))))) w := st
  -- R0.1 6 := model.go:101 assign
  refine WL.v (by first | exact r_assign (v := .int _ _) rfl | exact r_assign rfl) rfl rfl rfl ?_
  refine WL.fin hK3710 (fun _ _ h => h) ?_
  refine WC.seq fun K3711 hK3711 => ?_
  refine WC.seq fun K3712 hK3712 => ?_
  -- region 1
  refine WC.region ?_
  -- R1.0 13 := model.go:102 fieldAddr
  refine WL.v (by exact r_field ty_fld28_0 rfl) rfl rfl rfl ?_
  -- R1.1 14 := model.go:102 load
  refine WL.v (by exact r_load1 (v := .int .u8 (o.kind : Nat)) ty_one25 rfl (st.c0 (by decide))) rfl rfl rfl ?_
  refine WL.fin hK3712 (fun _ _ h => h) ?_
  refine WC.block ?_
  refine WC.seq fun K3713 hK3713 => ?_
  -- region 2
  refine WC.region ?_
  -- R2.0 16 := model.go:103 binOp
  refine WL.v (by exact r_eql rfl rfl (decide_eq_false (by omega))) rfl rfl rfl ?_
  -- R2.1 15 := model.go:103 assign
  refine WL.v (by first | exact r_assign (v := .bool _) rfl | exact r_assign rfl) rfl rfl rfl ?_
  refine WL.fin hK3713 (fun _ _ h => h) ?_
  refine WC.condF rfl rfl ?_
  refine WC.seq fun K3714 hK3714 => ?_
  -- region 6
  refine WC.region ?_
  -- R6.0 29 := model.go:107 binOp
  refine WL.v (by exact r_eql rfl rfl (decide_eq_false (by omega))) rfl rfl rfl ?_
  -- R6.1 28 := model.go:107 assign
  refine WL.v (by first | exact r_assign (v := .bool _) rfl | exact r_assign rfl) rfl rfl rfl ?_
  refine WL.fin hK3714 (fun _ _ h => h) ?_
  refine WC.condF rfl rfl ?_
  refine WC.seq fun K3715 hK3715 => ?_
  -- region 14
  refine WC.region ?_
  -- R14.0 76 := model.go:115 binOp
  refine WL.v (by exact r_eql rfl rfl (decide_eq_false (by omega))) rfl rfl rfl ?_
  -- R14.1 75 := model.go:115 assign
  refine WL.v (by first | exact r_assign (v := .bool _) rfl | exact r_assign rfl) rfl rfl rfl ?_
  refine WL.fin hK3715 (fun _ _ h => h) ?_
  refine WC.condF rfl rfl ?_
  refine WC.skipF hK3711 (fun _ _ h => h) ?_
  refine WC.seq fun K3716 hK3716 => ?_
  refine WC.seq fun K3717 hK3717 => ?_
  -- region 28
  refine WC.region ?_
  -- R28.0 143 := model.go:133 fieldAddr
  refine WL.v (by exact r_field ty_fld28_2 rfl) rfl rfl rfl ?_
  -- R28.1 144 := model.go:133 load
  refine WL.v (by exact r_load1 (v := .int .i64 o.B) ty_one2 rfl (st.c0 (by decide))) rfl rfl rfl ?_
  -- R28.2 145 := model.go:133 call
  refine WL.call (r_call ty_call93 rfl) rfl rfl rfl (withinM_ok (v := o.B) (n := 20) st) ?_
  rintro _ w ⟨he, st⟩
  have he : _ = Value.bool true := he.trans (by unfold wiP; rw [decide_eq_true hb])
  subst he
  -- R28.3 146 := model.go:133 unOp
  refine WL.v (by first | exact r_notT rfl | exact r_notF rfl | exact r_not rfl) rfl rfl rfl ?_
  refine WL.fin hK3717 (fun _ _ h => h) ?_
  refine WC.condF rfl rfl ?_
  refine WC.skipF hK3716 (fun _ _ h => h) ?_
  refine WC.seq fun K3718 hK3718 => ?_
  -- region 30
  refine WC.region ?_
  -- R30.0 147 := model.go:136 fieldAddr
  refine WL.v (by exact r_field ty_fld28_2 rfl) rfl rfl rfl ?_
  -- R30.1 148 := model.go:136 load
  refine WL.v (by exact r_load1 (v := .int .i64 (r : Nat)) ty_one2 rfl (by rw [← hr]; exact st.c0 (by decide))) rfl rfl rfl ?_
  -- R30.2 10 := model.go:136 assign
  refine WL.v (by first | exact r_assign (v := .int _ _) rfl | exact r_assign rfl) rfl rfl rfl ?_
  refine WL.fin hK3718 (fun _ _ h => h) ?_
  refine WC.seq fun K3719 hK3719 => ?_
  refine WC.seq fun K3720 hK3720 => ?_
  -- region 31
  refine WC.region ?_
  -- R31.0 149 := model.go:137 fieldAddr
  refine WL.v (by exact r_field ty_fld28_0 rfl) rfl rfl rfl ?_
  -- R31.1 150 := model.go:137 load
  refine WL.v (by exact r_load1 (v := .int .u8 (o.kind : Nat)) ty_one25 rfl (st.c0 (by decide))) rfl rfl rfl ?_
  refine WL.fin hK3720 (fun _ _ h => h) ?_
  refine WC.block ?_
  refine WC.seq fun K3721 hK3721 => ?_
  -- region 32
  refine WC.region ?_
  -- R32.0 152 := model.go:138 binOp
  refine WL.v (by exact r_eql rfl rfl (decide_eq_true (by omega))) rfl rfl rfl ?_
  -- R32.1 151 := model.go:138 assign
  refine WL.v (by first | exact r_assign (v := .bool _) rfl | exact r_assign rfl) rfl rfl rfl ?_
  refine WL.fin hK3721 (fun _ _ h => h) ?_
  refine WC.condT rfl rfl ?_
  refine WC.seq fun K3722 hK3722 => ?_
  refine WC.seq fun K3723 hK3723 => ?_
  -- region 33 (draws)
  refine WC.quietS st ty_mixed (by kernel_rfl) fun Kq hKq => ?_
  -- R33.0 153 := model.go:139 fieldAddr
  refine QL.v (fun w st => by exact r_field ty_fld28_3 rfl) rfl rfl rfl ?_
  -- R33.1 154 := model.go:139 load
  refine QL.v (fun w st => by exact r_load1 (v := .int .i64 o.C) ty_one2 rfl (st.c0 (by decide))) rfl rfl rfl ?_
  -- R33.2 155 := model.go:139 move
  refine QL.v (fun w st => by first | exact r_move (v := .int _ _) rfl | exact r_move rfl) rfl rfl rfl ?_
  -- R33.3 156 := model.go:139 call
  refine QL.call (val := .int .i64 (totP r : Nat)) (fun w st => r_call ty_call58 rfl) rfl rfl rfl (fun w st => total_ok (r := r) st) ?_
  -- R33.4 157 := model.go:139 binOp
  refine QL.v (fun w st => by exact r_add (r := (totP r : Int) + 1) rfl rfl (wi64 (by omega) (by omega))) rfl rfl rfl ?_
  -- R33.5 158 := model.go:139 call
  refine QL.call (val := .bool true) (fun w st => r_call ty_call93 rfl) rfl rfl rfl (fun w st => (withinM_ok st).mono (by rintro _ _ ⟨v, rfl, rfl, st⟩; exact ⟨_, rfl, by unfold wiP; rw [decide_eq_true hC], st⟩)) ?_
  -- R33.6 159 := model.go:139 unOp
  refine QL.v (fun w st => by first | exact r_notT rfl | exact r_notF rfl | exact r_not rfl) rfl rfl rfl ?_
  refine QL.wl hKq fun w st => ?_
  refine WL.fin hK3723 (fun _ _ h => h) ?_
  refine WC.condF rfl rfl ?_
  refine WC.skipF hK3722 (fun _ _ h => h) ?_
  refine WC.seq fun K3724 hK3724 => ?_
  refine WC.seq fun K3725 hK3725 => ?_
  -- region 35
  refine WC.region ?_
  -- R35.0 160 := model.go:142 move
  refine WL.v (by first | exact r_move (v := .pointer _) rfl | exact r_move rfl) rfl rfl rfl ?_
  -- R35.1 161 := model.go:142 move
  refine WL.v (by first | exact r_move (v := .int _ _) rfl | exact r_move rfl) rfl rfl rfl ?_
  -- R35.2 162 := model.go:142 nilCheck
  refine WL.v (by exact r_nilCheck rfl) rfl rfl rfl ?_
  -- R35.3 163 := model.go:142 fieldAddr
  refine WL.v (by exact r_field ty_fld98_7 rfl) rfl rfl rfl ?_
  -- R35.4 164 := model.go:142 indexAddr
  refine WL.v (by exact r_indexA (j := t) ty_ar45 rfl rfl rfl ht) rfl rfl rfl ?_
  -- R35.5 165 := model.go:142 load
  refine WL.v (by exact r_loadN (f := (fun r => .int .i64 (s.held t r : Nat))) ty_agg44 rfl (fun k hk => c_mheld (m := mrOf s) (List.mem_cons_of_mem _ (List.mem_cons_of_mem _ List.mem_cons_self)) ht hk (by omega) st)) rfl rfl rfl ?_
  -- R35.6 166 := model.go:142 build
  refine WL.v (by exact r_buildN (n := 20) (z := fun _ => .int .i64 0) (v := fun _ => .int .i64 0) (ps := []) ty_pl44 ty_zeroN44 rfl fill_nil) rfl rfl rfl ?_
  -- R35.7 167 := model.go:142 binOp
  refine WL.v (by exact r_aneq (n := 20) (F := fun r => .int .i64 (s.held t r : Nat)) (G := fun _ => .int .i64 0) (t := false) eqH List.length_replicate rfl rfl (fun i hi => by rw [rep_get hi]; exact KFit.int) ⟨fun _ i hi => by rw [hh i hi]; rfl, fun _ => rfl⟩) rfl rfl rfl ?_
  refine WL.fin hK3725 (fun _ _ h => h) ?_
  refine WC.condF rfl rfl ?_
  refine WC.skipF hK3724 (fun _ _ h => h) ?_
  refine WC.seq fun K3726 hK3726 => ?_
  -- region 37 (draws)
  refine WC.tailS 9 st ty_mixed (by kernel_rfl) fun w st Kq hKq => ?_
  -- R37.0 168 := model.go:145 move
  refine SL.v (by first | exact r_move (v := .pointer _) rfl | exact r_move rfl) rfl rfl rfl ?_
  -- R37.1 169 := model.go:145 move
  refine SL.v (by first | exact r_move (v := .int _ _) rfl | exact r_move rfl) rfl rfl rfl ?_
  -- R37.2 170 := model.go:145 move
  refine SL.v (by first | exact r_move (v := .int _ _) rfl | exact r_move rfl) rfl rfl rfl ?_
  -- R37.3 171 := model.go:145 fieldAddr
  refine SL.v (by exact r_field ty_fld28_3 rfl) rfl rfl rfl ?_
  -- R37.4 172 := model.go:145 load
  refine SL.v (by exact r_load1 (v := .int .i64 (u : Nat)) ty_one2 rfl (by rw [← hu]; exact st.c0 (by decide))) rfl rfl rfl ?_
  -- R37.5 173 := model.go:145 nilCheck
  refine SL.v (by exact r_nilCheck rfl) rfl rfl rfl ?_
  -- R37.6 174 := model.go:145 fieldAddr
  refine SL.v (by exact r_field ty_fld98_8 rfl) rfl rfl rfl ?_
  -- R37.7 175 := model.go:145 indexAddr
  refine SL.v (by exact r_indexA (j := t) ty_ar45 rfl rfl rfl ht) rfl rfl rfl ?_
  -- R37.8 176 := model.go:145 indexAddr
  refine SL.v (by exact r_indexA (j := r) ty_ar44 rfl rfl rfl hr20) rfl rfl rfl ?_
  refine SL.fin hKq ?_
  -- R37.9 None := model.go:145 store
  refine WL.store (v := .int .i64 (u : Nat)) st.front2 ty_one3 rfl rfl rfl (by omega) rfl rfl ?_
  intro w st
  have st : S0 w0 (moI bm (mrOf { s with claim := upd2 s.claim t r u }) pv tv mb :: (b5, Row 28 5 (nth (opL o))) :: mpE (mb t) (odF s t) :: (XP ++ (XO ++ (R ++ l)))) w := stE (mw_claim ht hr20) st
  have mh : MK w0 bm mb { s with claim := upd2 s.claim t r u } P l w := ⟨pv, XP, tv, XO, hp, ho, ((st.perm (by classical exact List.perm_iff_count.2 fun x => by simp only [List.count_append, List.count_cons, List.count_nil, List.append_eq, List.cons_append, List.nil_append, List.append_assoc, Nat.add_zero, Nat.zero_add] <;> ac_rfl) : S0 w0 ((b5, Row 28 5 (nth (opL o))) :: (moI bm (mrOf { s with claim := upd2 s.claim t r u }) pv tv mb :: (XP ++ (XO ++ ((mpE (mb t) (odF s t) :: R) ++ l))))) w).drop.perm ((((hR1.symm.append_right l).append_left XO).append_left XP).cons _))⟩
  refine WL.fin hK3726 (fun _ _ h => h) ?_
  refine WC.seq fun K3727 hK3727 => ?_
  -- region 38
  refine WC.region ?_
  -- R38.0 6 := model.go:146 assign
  refine WL.v (by first | exact r_assign (v := .int _ _) rfl | exact r_assign rfl) rfl rfl rfl ?_
  refine WL.fin hK3727 (fun _ _ h => h) ?_
  refine WC.ret1 Tryz.results99 (fun _ _ h => h) rfl ?_
  exact ⟨_, rfl, by rw [eS]; rfl, P, by rw [eS]; exact hrel.same rfl (fun _ => ⟨rfl, rfl⟩), by rw [eS]; exact mh⟩
end Go.Proofs.Qxb6500834aGreatDoor

