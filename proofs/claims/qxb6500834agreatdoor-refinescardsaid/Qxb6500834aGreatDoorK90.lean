import Derived.Test.Qxb6500834aGreatDoorK89
set_option linter.unusedVariables false
set_option linter.unusedSimpArgs false
set_option maxRecDepth 20000
namespace Go.Proofs.Qxb6500834aGreatDoor
open Go.RowKit Go.E1 Go.Kern
variable {w0 : World} {l X : List HI} {w : World} {s s' s0 : KS} {t r N n : Nat} {qv qv' : Nat → Value}
variable {P : List PQ} {m : MR} {pv tv v : Value} {mb : Nat → Nat} {bm : Nat} {T : List (Nat × Nat × Nat)} {O : Nat → Nat → Option Nat} {held claim : Nat → Nat → Nat}
set_option maxHeartbeats 4000000 in
theorem callM6_ok {o : Kern.Op} (hk : o.kind = 6) (hD : gD w0) (hA : o.A = t) (hc : CallOK s t) (hB : KB N s) (hN : N + 100 ≤ 1000000) (hI : INV s) (hct : CT s) (hrel : RelP s P) (st : MK w0 bm mb s P l w) :
    Calls Tryz.prog 99 #[.pointer (some ⟨bm, 0, none⟩), .int .i64 (t : Nat), .agg (opL o).toArray] w (Ret fun v w' => v = .int .i64 (stepP s o).2.1 ∧ ∃ P', RelP (stepP s o).1 P' ∧ MK w0 bm mb (stepP s o).1 P' l w') := by
  obtain ⟨pv, XP, tv, XO, hp, ho, st⟩ := st
  have ht := hc.lt
  have hplen := hrel.len
  have hnn := hB.nn
  obtain ⟨R, hR1, hR2⟩ := mp_at (mb := mb) (D := odF s) ht
  have st : S0 w0 (mpE (mb t) (odF s t) :: (moI bm (mrOf s) pv tv mb :: (XP ++ (XO ++ (R ++ l))))) w := (st.perm ((((hR1.append_right l).append_left XO).append_left XP).cons _) : S0 w0 (moI bm (mrOf s) pv tv mb :: (XP ++ (XO ++ ((mpE (mb t) (odF s t) :: R) ++ l)))) w).perm (by classical exact List.perm_iff_count.2 fun x => by simp only [List.count_append, List.count_cons, List.count_nil, List.append_eq, List.cons_append, List.nil_append, List.append_assoc, Nat.add_zero, Nat.zero_add] <;> ac_rfl)
  have hcal : callerP s (t : Int) = 0 := by
    unfold callerP
    rw [if_neg (by omega), Int.toNat_natCast, hc.live, if_neg (by decide), hc.wait]; rfl
  have hnA : nameP o.A 16 = (t : Int) := by rw [hA]; exact nameP_eq (by omega)
  have eR : stepP s o = ((releaseP s (t : Int) (nameP o.B 20)).1, (releaseP s (t : Int) (nameP o.B 20)).2, -1) := by
    unfold stepP; rw [hk, ← hnA]; rfl
  by_cases hb : 0 ≤ o.B ∧ o.B < 20
  rotate_left
  · have hnB : nameP o.B 20 = -1 := if_pos (by omega)
    have eS : stepP s o = (s, 13, -1) := by
      rw [eR]; unfold releaseP; rw [hcal, if_neg (by decide), hnB, if_pos (.inl (by decide))]
    refine enter [.pointer (some ⟨bm, 0, none⟩), .int .i64 (t : Nat), .agg (opL o).toArray] Tryz.func99 rfl Tryz.ntmps99 rfl ?_
    show WC _ _ _ 219 [] [(0, .pointer (some ⟨bm, 0, none⟩)), (1, .int .i64 (t : Nat)), (2, .agg (opL o).toArray)] _
    refine WC.seq fun K3583 hK3583 => ?_
    -- region 0
    refine WC.region ?_
    -- R0.0 5 := model.go:101 box
    refine WL.box (m := 5) (vs := opL o) st rfl rfl rfl rfl rfl rfl ?_
    intro b5 w st
    have st : S0 w0 ((b5, Row 28 5 (nth (opL o))) :: mpE (mb t) (odF s t) :: (moI bm (mrOf s) pv tv mb :: (XP ++ (XO ++ (R ++ l))))) w := st
    -- R0.1 6 := model.go:101 assign
    refine WL.v (by first | exact r_assign (v := .int _ _) rfl | exact r_assign rfl) rfl rfl rfl ?_
    refine WL.fin hK3583 (fun _ _ h => h) ?_
    refine WC.seq fun K3584 hK3584 => ?_
    refine WC.seq fun K3585 hK3585 => ?_
    -- region 1
    refine WC.region ?_
    -- R1.0 13 := model.go:102 fieldAddr
    refine WL.v (by exact r_field ty_fld28_0 rfl) rfl rfl rfl ?_
    -- R1.1 14 := model.go:102 load
    refine WL.v (by exact r_load1 (v := .int .u8 (o.kind : Nat)) ty_one25 rfl (st.c0 (by decide))) rfl rfl rfl ?_
    refine WL.fin hK3585 (fun _ _ h => h) ?_
    refine WC.block ?_
    refine WC.seq fun K3586 hK3586 => ?_
    -- region 2
    refine WC.region ?_
    -- R2.0 16 := model.go:103 binOp
    refine WL.v (by exact r_eql rfl rfl (decide_eq_false (by omega))) rfl rfl rfl ?_
    -- R2.1 15 := model.go:103 assign
    refine WL.v (by first | exact r_assign (v := .bool _) rfl | exact r_assign rfl) rfl rfl rfl ?_
    refine WL.fin hK3586 (fun _ _ h => h) ?_
    refine WC.condF rfl rfl ?_
    refine WC.seq fun K3587 hK3587 => ?_
    -- region 6
    refine WC.region ?_
    -- R6.0 29 := model.go:107 binOp
    refine WL.v (by exact r_eql rfl rfl (decide_eq_false (by omega))) rfl rfl rfl ?_
    -- R6.1 28 := model.go:107 assign
    refine WL.v (by first | exact r_assign (v := .bool _) rfl | exact r_assign rfl) rfl rfl rfl ?_
    refine WL.fin hK3587 (fun _ _ h => h) ?_
    refine WC.condF rfl rfl ?_
    refine WC.seq fun K3588 hK3588 => ?_
    -- region 14
    refine WC.region ?_
    -- R14.0 76 := model.go:115 binOp
    refine WL.v (by exact r_eql rfl rfl (decide_eq_false (by omega))) rfl rfl rfl ?_
    -- R14.1 75 := model.go:115 assign
    refine WL.v (by first | exact r_assign (v := .bool _) rfl | exact r_assign rfl) rfl rfl rfl ?_
    refine WL.fin hK3588 (fun _ _ h => h) ?_
    refine WC.condF rfl rfl ?_
    refine WC.skipF hK3584 (fun _ _ h => h) ?_
    refine WC.seq fun K3589 hK3589 => ?_
    refine WC.seq fun K3590 hK3590 => ?_
    -- region 28
    refine WC.region ?_
    -- R28.0 143 := model.go:133 fieldAddr
    refine WL.v (by exact r_field ty_fld28_2 rfl) rfl rfl rfl ?_
    -- R28.1 144 := model.go:133 load
    refine WL.v (by exact r_load1 (v := .int .i64 o.B) ty_one2 rfl (st.c0 (by decide))) rfl rfl rfl ?_
    -- R28.2 145 := model.go:133 call
    refine WL.call (r_call ty_call93 rfl) rfl rfl rfl (withinM_ok (v := o.B) (n := 20) st) ?_
    rintro _ w ⟨he, st⟩
    have he : _ = Value.bool false := he.trans (by unfold wiP; rw [decide_eq_false hb])
    subst he
    -- R28.3 146 := model.go:133 unOp
    refine WL.v (by first | exact r_notT rfl | exact r_notF rfl | exact r_not rfl) rfl rfl rfl ?_
    refine WL.fin hK3590 (fun _ _ h => h) ?_
    refine WC.condT rfl rfl ?_
    refine WC.seq fun K3591 hK3591 => ?_
    -- region 29
    refine WC.region ?_
    -- R29.0 6 := model.go:134 assign
    refine WL.v (by first | exact r_assign (v := .int _ _) rfl | exact r_assign rfl) rfl rfl rfl ?_
    refine WL.fin hK3591 (fun _ _ h => h) ?_
    refine WC.ret1 Tryz.results99 (fun _ _ h => h) rfl ?_
    exact ⟨_, rfl, by rw [eS]; rfl, P, by rw [eS]; exact hrel, by rw [eS]; exact ⟨pv, XP, tv, XO, hp, ho, ((st.drop.perm (by classical exact List.perm_iff_count.2 fun x => by simp only [List.count_append, List.count_cons, List.count_nil, List.append_eq, List.cons_append, List.nil_append, List.append_assoc, Nat.add_zero, Nat.zero_add] <;> ac_rfl) : S0 w0 (moI bm (mrOf s) pv tv mb :: (XP ++ (XO ++ ((mpE (mb t) (odF s t) :: R) ++ l)))) _).perm ((((hR1.symm.append_right l).append_left XO).append_left XP).cons _))⟩⟩
  obtain ⟨r, hr⟩ : ∃ r : Nat, o.B = r := ⟨o.B.toNat, by omega⟩
  have hr20 : r < 20 := by omega
  have hnB : nameP o.B 20 = (r : Int) := by rw [hr]; exact nameP_eq (by omega)
  have eP : releaseP s (t : Int) (nameP o.B 20) = if s.held t r = 0 then (s, 16) else if 8 ≤ (r : Int) ∧ touchesP (s.tk t) (r - 8) = true then (s, 17) else (wakeP { s with held := upd2 s.held t r 0 }, 0) := by
    unfold releaseP
    rw [hcal, if_neg (by decide), hnB, if_neg (by omega), Int.toNat_natCast, Int.toNat_natCast]
  by_cases hh : s.held t r = 0
  · have eS : stepP s o = (s, 16, -1) := by rw [eR, eP, if_pos hh]
    refine enter [.pointer (some ⟨bm, 0, none⟩), .int .i64 (t : Nat), .agg (opL o).toArray] Tryz.func99 rfl Tryz.ntmps99 rfl ?_
    show WC _ _ _ 219 [] [(0, .pointer (some ⟨bm, 0, none⟩)), (1, .int .i64 (t : Nat)), (2, .agg (opL o).toArray)] _
    refine WC.seq fun K3592 hK3592 => ?_
    -- region 0
    refine WC.region ?_
    -- R0.0 5 := model.go:101 box
    refine WL.box (m := 5) (vs := opL o) st rfl rfl rfl rfl rfl rfl ?_
    intro b5 w st
    have st : S0 w0 ((b5, Row 28 5 (nth (opL o))) :: mpE (mb t) (odF s t) :: (moI bm (mrOf s) pv tv mb :: (XP ++ (XO ++ (R ++ l))))) w := st
    -- R0.1 6 := model.go:101 assign
    refine WL.v (by first | exact r_assign (v := .int _ _) rfl | exact r_assign rfl) rfl rfl rfl ?_
    refine WL.fin hK3592 (fun _ _ h => h) ?_
    refine WC.seq fun K3593 hK3593 => ?_
    refine WC.seq fun K3594 hK3594 => ?_
    -- region 1
    refine WC.region ?_
    -- R1.0 13 := model.go:102 fieldAddr
    refine WL.v (by exact r_field ty_fld28_0 rfl) rfl rfl rfl ?_
    -- R1.1 14 := model.go:102 load
    refine WL.v (by exact r_load1 (v := .int .u8 (o.kind : Nat)) ty_one25 rfl (st.c0 (by decide))) rfl rfl rfl ?_
    refine WL.fin hK3594 (fun _ _ h => h) ?_
    refine WC.block ?_
    refine WC.seq fun K3595 hK3595 => ?_
    -- region 2
    refine WC.region ?_
    -- R2.0 16 := model.go:103 binOp
    refine WL.v (by exact r_eql rfl rfl (decide_eq_false (by omega))) rfl rfl rfl ?_
    -- R2.1 15 := model.go:103 assign
    refine WL.v (by first | exact r_assign (v := .bool _) rfl | exact r_assign rfl) rfl rfl rfl ?_
    refine WL.fin hK3595 (fun _ _ h => h) ?_
    refine WC.condF rfl rfl ?_
    refine WC.seq fun K3596 hK3596 => ?_
    -- region 6
    refine WC.region ?_
    -- R6.0 29 := model.go:107 binOp
    refine WL.v (by exact r_eql rfl rfl (decide_eq_false (by omega))) rfl rfl rfl ?_
    -- R6.1 28 := model.go:107 assign
    refine WL.v (by first | exact r_assign (v := .bool _) rfl | exact r_assign rfl) rfl rfl rfl ?_
    refine WL.fin hK3596 (fun _ _ h => h) ?_
    refine WC.condF rfl rfl ?_
    refine WC.seq fun K3597 hK3597 => ?_
    -- region 14
    refine WC.region ?_
    -- R14.0 76 := model.go:115 binOp
    refine WL.v (by exact r_eql rfl rfl (decide_eq_false (by omega))) rfl rfl rfl ?_
    -- R14.1 75 := model.go:115 assign
    refine WL.v (by first | exact r_assign (v := .bool _) rfl | exact r_assign rfl) rfl rfl rfl ?_
    refine WL.fin hK3597 (fun _ _ h => h) ?_
    refine WC.condF rfl rfl ?_
    refine WC.skipF hK3593 (fun _ _ h => h) ?_
    refine WC.seq fun K3598 hK3598 => ?_
    refine WC.seq fun K3599 hK3599 => ?_
    -- region 28
    refine WC.region ?_
    -- R28.0 143 := model.go:133 fieldAddr
    refine WL.v (by exact r_field ty_fld28_2 rfl) rfl rfl rfl ?_
    -- R28.1 144 := model.go:133 load
    refine WL.v (by exact r_load1 (v := .int .i64 o.B) ty_one2 rfl (st.c0 (by decide))) rfl rfl rfl ?_
    -- R28.2 145 := model.go:133 call
    refine WL.call (r_call ty_call93 rfl) rfl rfl rfl (withinM_ok (v := o.B) (n := 20) st) ?_
    rintro _ w ⟨he, st⟩
    have he : _ = Value.bool true := he.trans (by unfold wiP; rw [decide_eq_true hb])
    subst he
    -- R28.3 146 := model.go:133 unOp
    refine WL.v (by first | exact r_notT rfl | exact r_notF rfl | exact r_not rfl) rfl rfl rfl ?_
    refine WL.fin hK3599 (fun _ _ h => h) ?_
    refine WC.condF rfl rfl ?_
    refine WC.skipF hK3598 (fun _ _ h => h) ?_
    refine WC.seq fun K3600 hK3600 => ?_
    -- region 30
    refine WC.region ?_
    -- R30.0 147 := model.go:136 fieldAddr
    refine WL.v (by exact r_field ty_fld28_2 rfl) rfl rfl rfl ?_
    -- R30.1 148 := model.go:136 load
    refine WL.v (by exact r_load1 (v := .int .i64 (r : Nat)) ty_one2 rfl (by rw [← hr]; exact st.c0 (by decide))) rfl rfl rfl ?_
    -- R30.2 10 := model.go:136 assign
    refine WL.v (by first | exact r_assign (v := .int _ _) rfl | exact r_assign rfl) rfl rfl rfl ?_
    refine WL.fin hK3600 (fun _ _ h => h) ?_
    refine WC.seq fun K3601 hK3601 => ?_
    refine WC.seq fun K3602 hK3602 => ?_
    -- region 31
    refine WC.region ?_
    -- R31.0 149 := model.go:137 fieldAddr
    refine WL.v (by exact r_field ty_fld28_0 rfl) rfl rfl rfl ?_
    -- R31.1 150 := model.go:137 load
    refine WL.v (by exact r_load1 (v := .int .u8 (o.kind : Nat)) ty_one25 rfl (st.c0 (by decide))) rfl rfl rfl ?_
    refine WL.fin hK3602 (fun _ _ h => h) ?_
    refine WC.block ?_
    refine WC.seq fun K3603 hK3603 => ?_
    -- region 32
    refine WC.region ?_
    -- R32.0 152 := model.go:138 binOp
    refine WL.v (by exact r_eql rfl rfl (decide_eq_false (by omega))) rfl rfl rfl ?_
    -- R32.1 151 := model.go:138 assign
    refine WL.v (by first | exact r_assign (v := .bool _) rfl | exact r_assign rfl) rfl rfl rfl ?_
    refine WL.fin hK3603 (fun _ _ h => h) ?_
    refine WC.condF rfl rfl ?_
    refine WC.seq fun K3604 hK3604 => ?_
    -- region 39
    refine WC.region ?_
    -- R39.0 178 := model.go:147 binOp
    refine WL.v (by exact r_eql rfl rfl (decide_eq_true (by omega))) rfl rfl rfl ?_
    -- R39.1 177 := model.go:147 assign
    refine WL.v (by first | exact r_assign (v := .bool _) rfl | exact r_assign rfl) rfl rfl rfl ?_
    refine WL.fin hK3604 (fun _ _ h => h) ?_
    refine WC.condT rfl rfl ?_
    refine WC.seq fun K3605 hK3605 => ?_
    refine WC.seq fun K3606 hK3606 => ?_
    -- region 40
    refine WC.region ?_
    -- R40.0 179 := model.go:148 move
    refine WL.v (by first | exact r_move (v := .pointer _) rfl | exact r_move rfl) rfl rfl rfl ?_
    -- R40.1 180 := model.go:148 move
    refine WL.v (by first | exact r_move (v := .int _ _) rfl | exact r_move rfl) rfl rfl rfl ?_
    -- R40.2 181 := model.go:148 move
    refine WL.v (by first | exact r_move (v := .int _ _) rfl | exact r_move rfl) rfl rfl rfl ?_
    -- R40.3 182 := model.go:148 nilCheck
    refine WL.v (by exact r_nilCheck rfl) rfl rfl rfl ?_
    -- R40.4 183 := model.go:148 fieldAddr
    refine WL.v (by exact r_field ty_fld98_7 rfl) rfl rfl rfl ?_
    -- R40.5 184 := model.go:148 indexAddr
    refine WL.v (by exact r_indexA (j := t) ty_ar45 rfl rfl rfl ht) rfl rfl rfl ?_
    -- R40.6 185 := model.go:148 indexAddr
    refine WL.v (by exact r_indexA (j := r) ty_ar44 rfl rfl rfl hr20) rfl rfl rfl ?_
    -- R40.7 186 := model.go:148 load
    refine WL.v (by exact r_load1 (v := .int .i64 (s.held t r : Nat)) ty_one3 rfl (c_mheld (m := mrOf s) (List.mem_cons_of_mem _ (List.mem_cons_of_mem _ List.mem_cons_self)) ht hr20 (by omega) st)) rfl rfl rfl ?_
    -- R40.8 187 := model.go:148 binOp
    refine WL.v (by exact r_eql rfl rfl (decide_eq_true (by omega))) rfl rfl rfl ?_
    refine WL.fin hK3606 (fun _ _ h => h) ?_
    refine WC.condT rfl rfl ?_
    refine WC.seq fun K3607 hK3607 => ?_
    -- region 41
    refine WC.region ?_
    -- R41.0 6 := model.go:149 assign
    refine WL.v (by first | exact r_assign (v := .int _ _) rfl | exact r_assign rfl) rfl rfl rfl ?_
    refine WL.fin hK3607 (fun _ _ h => h) ?_
    refine WC.ret1 Tryz.results99 (fun _ _ h => h) rfl ?_
    exact ⟨_, rfl, by rw [eS]; rfl, P, by rw [eS]; exact hrel, by rw [eS]; exact ⟨pv, XP, tv, XO, hp, ho, ((st.drop.perm (by classical exact List.perm_iff_count.2 fun x => by simp only [List.count_append, List.count_cons, List.count_nil, List.append_eq, List.cons_append, List.nil_append, List.append_assoc, Nat.add_zero, Nat.zero_add] <;> ac_rfl) : S0 w0 (moI bm (mrOf s) pv tv mb :: (XP ++ (XO ++ ((mpE (mb t) (odF s t) :: R) ++ l)))) _).perm ((((hR1.symm.append_right l).append_left XO).append_left XP).cons _))⟩⟩
  have hkg : keyGood Go.Proofs.Tryz.prog 74 (.int .i64 ((r : Int) - 8)) := ⟨.int .i64 ((r : Int) - 8), Go.Maps.keyOf_int_mk Go.Proofs.Tryz.underlying74 (by simp only [Lit.wf, Bool.and_eq_true, decide_eq_true_eq]; exact ⟨by show (-9223372036854775808 : Int) ≤ _; omega, by show _ ≤ (9223372036854775807 : Int); omega⟩)⟩
  obtain ⟨ov, hov⟩ : ∃ ov : Option Nat, ov = if 8 ≤ r then odF s t (r - 8) else none := ⟨_, rfl⟩
  have hodv : odV (odF s t) ((r : Int) - 8) = ov.map fun v => .int .u64 (v : Nat) := by
    unfold odV
    by_cases h8 : 8 ≤ r
    · rw [if_pos (by omega), show ((r : Int) - 8).toNat = r - 8 by omega, hov, if_pos h8]
    · rw [if_neg (by omega), hov, if_neg h8]; rfl
  have hto : 8 ≤ r → touchesP (s.tk t) (r - 8) = ov.isSome := fun h8 => by rw [touch_old, hov, if_pos h8]; rfl
  by_cases h17 : 8 ≤ (r : Int) ∧ touchesP (s.tk t) (r - 8) = true
  · have eS : stepP s o = (s, 17, -1) := by rw [eR, eP, if_neg hh, if_pos h17]
    have h8 : 8 ≤ r := by omega
    have ho1 : ov.isSome = true := by rw [← hto h8]; exact h17.2
    refine enter [.pointer (some ⟨bm, 0, none⟩), .int .i64 (t : Nat), .agg (opL o).toArray] Tryz.func99 rfl Tryz.ntmps99 rfl ?_
    show WC _ _ _ 219 [] [(0, .pointer (some ⟨bm, 0, none⟩)), (1, .int .i64 (t : Nat)), (2, .agg (opL o).toArray)] _
    refine WC.seq fun K3608 hK3608 => ?_
    -- region 0
    refine WC.region ?_
    -- R0.0 5 := model.go:101 box
    refine WL.box (m := 5) (vs := opL o) st rfl rfl rfl rfl rfl rfl ?_
    intro b5 w st
    have st : S0 w0 ((b5, Row 28 5 (nth (opL o))) :: mpE (mb t) (odF s t) :: (moI bm (mrOf s) pv tv mb :: (XP ++ (XO ++ (R ++ l))))) w := st
    -- R0.1 6 := model.go:101 assign
    refine WL.v (by first | exact r_assign (v := .int _ _) rfl | exact r_assign rfl) rfl rfl rfl ?_
    refine WL.fin hK3608 (fun _ _ h => h) ?_
    refine WC.seq fun K3609 hK3609 => ?_
    refine WC.seq fun K3610 hK3610 => ?_
    -- region 1
    refine WC.region ?_
    -- R1.0 13 := model.go:102 fieldAddr
    refine WL.v (by exact r_field ty_fld28_0 rfl) rfl rfl rfl ?_
    -- R1.1 14 := model.go:102 load
    refine WL.v (by exact r_load1 (v := .int .u8 (o.kind : Nat)) ty_one25 rfl (st.c0 (by decide))) rfl rfl rfl ?_
    refine WL.fin hK3610 (fun _ _ h => h) ?_
    refine WC.block ?_
    refine WC.seq fun K3611 hK3611 => ?_
    -- region 2
    refine WC.region ?_
    -- R2.0 16 := model.go:103 binOp
    refine WL.v (by exact r_eql rfl rfl (decide_eq_false (by omega))) rfl rfl rfl ?_
    -- R2.1 15 := model.go:103 assign
    refine WL.v (by first | exact r_assign (v := .bool _) rfl | exact r_assign rfl) rfl rfl rfl ?_
    refine WL.fin hK3611 (fun _ _ h => h) ?_
    refine WC.condF rfl rfl ?_
    refine WC.seq fun K3612 hK3612 => ?_
    -- region 6
    refine WC.region ?_
    -- R6.0 29 := model.go:107 binOp
    refine WL.v (by exact r_eql rfl rfl (decide_eq_false (by omega))) rfl rfl rfl ?_
    -- R6.1 28 := model.go:107 assign
    refine WL.v (by first | exact r_assign (v := .bool _) rfl | exact r_assign rfl) rfl rfl rfl ?_
    refine WL.fin hK3612 (fun _ _ h => h) ?_
    refine WC.condF rfl rfl ?_
    refine WC.seq fun K3613 hK3613 => ?_
    -- region 14
    refine WC.region ?_
    -- R14.0 76 := model.go:115 binOp
    refine WL.v (by exact r_eql rfl rfl (decide_eq_false (by omega))) rfl rfl rfl ?_
    -- R14.1 75 := model.go:115 assign
    refine WL.v (by first | exact r_assign (v := .bool _) rfl | exact r_assign rfl) rfl rfl rfl ?_
    refine WL.fin hK3613 (fun _ _ h => h) ?_
    refine WC.condF rfl rfl ?_
    refine WC.skipF hK3609 (fun _ _ h => h) ?_
    refine WC.seq fun K3614 hK3614 => ?_
    refine WC.seq fun K3615 hK3615 => ?_
    -- region 28
    refine WC.region ?_
    -- R28.0 143 := model.go:133 fieldAddr
    refine WL.v (by exact r_field ty_fld28_2 rfl) rfl rfl rfl ?_
    -- R28.1 144 := model.go:133 load
    refine WL.v (by exact r_load1 (v := .int .i64 o.B) ty_one2 rfl (st.c0 (by decide))) rfl rfl rfl ?_
    -- R28.2 145 := model.go:133 call
    refine WL.call (r_call ty_call93 rfl) rfl rfl rfl (withinM_ok (v := o.B) (n := 20) st) ?_
    rintro _ w ⟨he, st⟩
    have he : _ = Value.bool true := he.trans (by unfold wiP; rw [decide_eq_true hb])
    subst he
    -- R28.3 146 := model.go:133 unOp
    refine WL.v (by first | exact r_notT rfl | exact r_notF rfl | exact r_not rfl) rfl rfl rfl ?_
    refine WL.fin hK3615 (fun _ _ h => h) ?_
    refine WC.condF rfl rfl ?_
    refine WC.skipF hK3614 (fun _ _ h => h) ?_
    refine WC.seq fun K3616 hK3616 => ?_
    -- region 30
    refine WC.region ?_
    -- R30.0 147 := model.go:136 fieldAddr
    refine WL.v (by exact r_field ty_fld28_2 rfl) rfl rfl rfl ?_
    -- R30.1 148 := model.go:136 load
    refine WL.v (by exact r_load1 (v := .int .i64 (r : Nat)) ty_one2 rfl (by rw [← hr]; exact st.c0 (by decide))) rfl rfl rfl ?_
    -- R30.2 10 := model.go:136 assign
    refine WL.v (by first | exact r_assign (v := .int _ _) rfl | exact r_assign rfl) rfl rfl rfl ?_
    refine WL.fin hK3616 (fun _ _ h => h) ?_
    refine WC.seq fun K3617 hK3617 => ?_
    refine WC.seq fun K3618 hK3618 => ?_
    -- region 31
    refine WC.region ?_
    -- R31.0 149 := model.go:137 fieldAddr
    refine WL.v (by exact r_field ty_fld28_0 rfl) rfl rfl rfl ?_
    -- R31.1 150 := model.go:137 load
    refine WL.v (by exact r_load1 (v := .int .u8 (o.kind : Nat)) ty_one25 rfl (st.c0 (by decide))) rfl rfl rfl ?_
    refine WL.fin hK3618 (fun _ _ h => h) ?_
    refine WC.block ?_
    refine WC.seq fun K3619 hK3619 => ?_
    -- region 32
    refine WC.region ?_
    -- R32.0 152 := model.go:138 binOp
    refine WL.v (by exact r_eql rfl rfl (decide_eq_false (by omega))) rfl rfl rfl ?_
    -- R32.1 151 := model.go:138 assign
    refine WL.v (by first | exact r_assign (v := .bool _) rfl | exact r_assign rfl) rfl rfl rfl ?_
    refine WL.fin hK3619 (fun _ _ h => h) ?_
    refine WC.condF rfl rfl ?_
    refine WC.seq fun K3620 hK3620 => ?_
    -- region 39
    refine WC.region ?_
    -- R39.0 178 := model.go:147 binOp
    refine WL.v (by exact r_eql rfl rfl (decide_eq_true (by omega))) rfl rfl rfl ?_
    -- R39.1 177 := model.go:147 assign
    refine WL.v (by first | exact r_assign (v := .bool _) rfl | exact r_assign rfl) rfl rfl rfl ?_
    refine WL.fin hK3620 (fun _ _ h => h) ?_
    refine WC.condT rfl rfl ?_
    refine WC.seq fun K3621 hK3621 => ?_
    refine WC.seq fun K3622 hK3622 => ?_
    -- region 40
    refine WC.region ?_
    -- R40.0 179 := model.go:148 move
    refine WL.v (by first | exact r_move (v := .pointer _) rfl | exact r_move rfl) rfl rfl rfl ?_
    -- R40.1 180 := model.go:148 move
    refine WL.v (by first | exact r_move (v := .int _ _) rfl | exact r_move rfl) rfl rfl rfl ?_
    -- R40.2 181 := model.go:148 move
    refine WL.v (by first | exact r_move (v := .int _ _) rfl | exact r_move rfl) rfl rfl rfl ?_
    -- R40.3 182 := model.go:148 nilCheck
    refine WL.v (by exact r_nilCheck rfl) rfl rfl rfl ?_
    -- R40.4 183 := model.go:148 fieldAddr
    refine WL.v (by exact r_field ty_fld98_7 rfl) rfl rfl rfl ?_
    -- R40.5 184 := model.go:148 indexAddr
    refine WL.v (by exact r_indexA (j := t) ty_ar45 rfl rfl rfl ht) rfl rfl rfl ?_
    -- R40.6 185 := model.go:148 indexAddr
    refine WL.v (by exact r_indexA (j := r) ty_ar44 rfl rfl rfl hr20) rfl rfl rfl ?_
    -- R40.7 186 := model.go:148 load
    refine WL.v (by exact r_load1 (v := .int .i64 (s.held t r : Nat)) ty_one3 rfl (c_mheld (m := mrOf s) (List.mem_cons_of_mem _ (List.mem_cons_of_mem _ List.mem_cons_self)) ht hr20 (by omega) st)) rfl rfl rfl ?_
    -- R40.8 187 := model.go:148 binOp
    refine WL.v (by exact r_eql rfl rfl (decide_eq_false (by omega))) rfl rfl rfl ?_
    refine WL.fin hK3622 (fun _ _ h => h) ?_
    refine WC.condF rfl rfl ?_
    refine WC.skipF hK3621 (fun _ _ h => h) ?_
    refine WC.seq fun K3623 hK3623 => ?_
    refine WC.seq fun K3624 hK3624 => ?_
    -- region 42
    refine WC.region ?_
    -- R42.0 189 := model.go:151 move
    refine WL.v (by first | exact r_move (v := .pointer _) rfl | exact r_move rfl) rfl rfl rfl ?_
    -- R42.1 190 := model.go:151 move
    refine WL.v (by first | exact r_move (v := .int _ _) rfl | exact r_move rfl) rfl rfl rfl ?_
    -- R42.2 191 := model.go:151 nilCheck
    refine WL.v (by exact r_nilCheck rfl) rfl rfl rfl ?_
    -- R42.3 192 := model.go:151 fieldAddr
    refine WL.v (by exact r_field ty_fld98_11 rfl) rfl rfl rfl ?_
    -- R42.4 193 := model.go:151 indexAddr
    refine WL.v (by exact r_indexA (j := t) ty_ar73 rfl rfl rfl ht) rfl rfl rfl ?_
    -- R42.5 194 := model.go:151 load
    refine WL.v (by exact r_load1 (v := .map (some (mb t))) ty_one72 rfl (c_mbefore (List.mem_cons_of_mem _ (List.mem_cons_of_mem _ List.mem_cons_self)) ht (by omega) st)) rfl rfl rfl ?_
    -- R42.6 195 := model.go:151 move
    refine WL.v (by first | exact r_move (v := .int _ _) rfl | exact r_move rfl) rfl rfl rfl ?_
    -- R42.7 196 := model.go:151 binOp
    refine WL.v (by exact r_sub (r := (r : Int) - 8) rfl rfl (wi64 (by omega) (by omega))) rfl rfl rfl ?_
    -- R42.8 197 := model.go:151 lookup
    refine WL.v (by exact r_lookok (key := .int .i64 ((r : Int) - 8)) (v := .int .u64 ((ov.getD 0 : Nat) : Int)) (t := ov.isSome) ty_kb74 ty_mp72 ty_z126 rfl rfl st (List.mem_cons_of_mem _ List.mem_cons_self) hkg (by show (odV (odF s t) ((r : Int) - 8)).getD _ = _; rw [hodv]; cases ov <;> rfl) (by show (odV (odF s t) ((r : Int) - 8)).isSome = _; rw [hodv]; cases ov <;> rfl)) rfl rfl rfl ?_
    -- R42.9 188 := model.go:151 move
    refine WL.v (by first | exact r_move (v := .tuple _) rfl | exact r_move rfl) rfl rfl rfl ?_
    -- R42.10 198 := model.go:151 extract
    refine WL.v (by first | exact r_extract (v := .int _ _) rfl rfl | exact r_extract rfl rfl) rfl rfl rfl ?_
    -- R42.11 199 := model.go:151 extract
    refine WL.v (by first | exact r_extract (v := .bool _) rfl rfl | exact r_extract rfl rfl) rfl rfl rfl ?_
    -- R42.12 11 := model.go:151 assign
    refine WL.v (by first | exact r_assign (v := .int _ _) rfl | exact r_assign rfl) rfl rfl rfl ?_
    -- R42.13 12 := model.go:151 assign
    refine WL.v (by first | exact r_assign (v := .bool _) rfl | exact r_assign rfl) rfl rfl rfl ?_
    refine WL.fin hK3624 (fun _ _ h => h) ?_
    refine WC.seq fun K3625 hK3625 => ?_
    -- region 43
    refine WC.region ?_
    -- R43.0 200 := model.go:151 move
    refine WL.v (by first | exact r_move (v := .int _ _) rfl | exact r_move rfl) rfl rfl rfl ?_
    -- R43.1 201 := model.go:151 binOp
    refine WL.v (by exact r_geq rfl rfl (decide_eq_true (by omega))) rfl rfl rfl ?_
    -- R43.2 202 := model.go:151 move
    refine WL.v (by first | exact r_move (v := .bool _) rfl | exact r_move rfl) rfl rfl rfl ?_
    -- R43.3 203 := model.go:151 move
    refine WL.v (by exact r_move (v := .bool true) (congrArg Value.bool ho1)) rfl rfl rfl ?_
    -- R43.4 204 := model.go:151 pick
    refine WL.v (by first | exact r_pickT (v := .bool _) rfl rfl | exact r_pickF (v := .bool _) rfl rfl) rfl rfl rfl ?_
    refine WL.fin hK3625 (fun _ _ h => h) ?_
    refine WC.condT rfl rfl ?_
    refine WC.seq fun K3626 hK3626 => ?_
    -- region 44
    refine WC.region ?_
    -- R44.0 6 := model.go:152 assign
    refine WL.v (by first | exact r_assign (v := .int _ _) rfl | exact r_assign rfl) rfl rfl rfl ?_
    refine WL.fin hK3626 (fun _ _ h => h) ?_
    refine WC.ret1 Tryz.results99 (fun _ _ h => h) rfl ?_
    exact ⟨_, rfl, by rw [eS]; rfl, P, by rw [eS]; exact hrel, by rw [eS]; exact ⟨pv, XP, tv, XO, hp, ho, ((st.drop.perm (by classical exact List.perm_iff_count.2 fun x => by simp only [List.count_append, List.count_cons, List.count_nil, List.append_eq, List.cons_append, List.nil_append, List.append_assoc, Nat.add_zero, Nat.zero_add] <;> ac_rfl) : S0 w0 (moI bm (mrOf s) pv tv mb :: (XP ++ (XO ++ ((mpE (mb t) (odF s t) :: R) ++ l)))) _).perm ((((hR1.symm.append_right l).append_left XO).append_left XP).cons _))⟩⟩
  have eS : stepP s o = (wakeP { s with held := upd2 s.held t r 0 }, 0, -1) := by rw [eR, eP, if_neg hh, if_neg h17]
  have hntc : 8 ≤ r → touchesP (s.tk t) (r - 8) = false := fun h8 => by
    cases hx : touchesP (s.tk t) (r - 8) with
    | false => rfl
    | true => exact absurd ⟨by omega, hx⟩ h17
  by_cases h8 : 8 ≤ r
  · have ho1 : ov.isSome = false := by rw [← hto h8]; exact hntc h8
    refine enter [.pointer (some ⟨bm, 0, none⟩), .int .i64 (t : Nat), .agg (opL o).toArray] Tryz.func99 rfl Tryz.ntmps99 rfl ?_
    show WC _ _ _ 219 [] [(0, .pointer (some ⟨bm, 0, none⟩)), (1, .int .i64 (t : Nat)), (2, .agg (opL o).toArray)] _
    refine WC.seq fun K3627 hK3627 => ?_
    -- region 0
    refine WC.region ?_
    -- R0.0 5 := model.go:101 box
    refine WL.box (m := 5) (vs := opL o) st rfl rfl rfl rfl rfl rfl ?_
    intro b5 w st
    have st : S0 w0 ((b5, Row 28 5 (nth (opL o))) :: mpE (mb t) (odF s t) :: (moI bm (mrOf s) pv tv mb :: (XP ++ (XO ++ (R ++ l))))) w := st
    -- R0.1 6 := model.go:101 assign
    refine WL.v (by first | exact r_assign (v := .int _ _) rfl | exact r_assign rfl) rfl rfl rfl ?_
    refine WL.fin hK3627 (fun _ _ h => h) ?_
    refine WC.seq fun K3628 hK3628 => ?_
    refine WC.seq fun K3629 hK3629 => ?_
    -- region 1
    refine WC.region ?_
    -- R1.0 13 := model.go:102 fieldAddr
    refine WL.v (by exact r_field ty_fld28_0 rfl) rfl rfl rfl ?_
    -- R1.1 14 := model.go:102 load
    refine WL.v (by exact r_load1 (v := .int .u8 (o.kind : Nat)) ty_one25 rfl (st.c0 (by decide))) rfl rfl rfl ?_
    refine WL.fin hK3629 (fun _ _ h => h) ?_
    refine WC.block ?_
    refine WC.seq fun K3630 hK3630 => ?_
    -- region 2
    refine WC.region ?_
    -- R2.0 16 := model.go:103 binOp
    refine WL.v (by exact r_eql rfl rfl (decide_eq_false (by omega))) rfl rfl rfl ?_
    -- R2.1 15 := model.go:103 assign
    refine WL.v (by first | exact r_assign (v := .bool _) rfl | exact r_assign rfl) rfl rfl rfl ?_
    refine WL.fin hK3630 (fun _ _ h => h) ?_
    refine WC.condF rfl rfl ?_
    refine WC.seq fun K3631 hK3631 => ?_
    -- region 6
    refine WC.region ?_
    -- R6.0 29 := model.go:107 binOp
    refine WL.v (by exact r_eql rfl rfl (decide_eq_false (by omega))) rfl rfl rfl ?_
    -- R6.1 28 := model.go:107 assign
    refine WL.v (by first | exact r_assign (v := .bool _) rfl | exact r_assign rfl) rfl rfl rfl ?_
    refine WL.fin hK3631 (fun _ _ h => h) ?_
    refine WC.condF rfl rfl ?_
    refine WC.seq fun K3632 hK3632 => ?_
    -- region 14
    refine WC.region ?_
    -- R14.0 76 := model.go:115 binOp
    refine WL.v (by exact r_eql rfl rfl (decide_eq_false (by omega))) rfl rfl rfl ?_
    -- R14.1 75 := model.go:115 assign
    refine WL.v (by first | exact r_assign (v := .bool _) rfl | exact r_assign rfl) rfl rfl rfl ?_
    refine WL.fin hK3632 (fun _ _ h => h) ?_
    refine WC.condF rfl rfl ?_
    refine WC.skipF hK3628 (fun _ _ h => h) ?_
    refine WC.seq fun K3633 hK3633 => ?_
    refine WC.seq fun K3634 hK3634 => ?_
    -- region 28
    refine WC.region ?_
    -- R28.0 143 := model.go:133 fieldAddr
    refine WL.v (by exact r_field ty_fld28_2 rfl) rfl rfl rfl ?_
    -- R28.1 144 := model.go:133 load
    refine WL.v (by exact r_load1 (v := .int .i64 o.B) ty_one2 rfl (st.c0 (by decide))) rfl rfl rfl ?_
    -- R28.2 145 := model.go:133 call
    refine WL.call (r_call ty_call93 rfl) rfl rfl rfl (withinM_ok (v := o.B) (n := 20) st) ?_
    rintro _ w ⟨he, st⟩
    have he : _ = Value.bool true := he.trans (by unfold wiP; rw [decide_eq_true hb])
    subst he
    -- R28.3 146 := model.go:133 unOp
    refine WL.v (by first | exact r_notT rfl | exact r_notF rfl | exact r_not rfl) rfl rfl rfl ?_
    refine WL.fin hK3634 (fun _ _ h => h) ?_
    refine WC.condF rfl rfl ?_
    refine WC.skipF hK3633 (fun _ _ h => h) ?_
    refine WC.seq fun K3635 hK3635 => ?_
    -- region 30
    refine WC.region ?_
    -- R30.0 147 := model.go:136 fieldAddr
    refine WL.v (by exact r_field ty_fld28_2 rfl) rfl rfl rfl ?_
    -- R30.1 148 := model.go:136 load
    refine WL.v (by exact r_load1 (v := .int .i64 (r : Nat)) ty_one2 rfl (by rw [← hr]; exact st.c0 (by decide))) rfl rfl rfl ?_
    -- R30.2 10 := model.go:136 assign
    refine WL.v (by first | exact r_assign (v := .int _ _) rfl | exact r_assign rfl) rfl rfl rfl ?_
    refine WL.fin hK3635 (fun _ _ h => h) ?_
    refine WC.seq fun K3636 hK3636 => ?_
    refine WC.seq fun K3637 hK3637 => ?_
    -- region 31
    refine WC.region ?_
    -- R31.0 149 := model.go:137 fieldAddr
    refine WL.v (by exact r_field ty_fld28_0 rfl) rfl rfl rfl ?_
    -- R31.1 150 := model.go:137 load
    refine WL.v (by exact r_load1 (v := .int .u8 (o.kind : Nat)) ty_one25 rfl (st.c0 (by decide))) rfl rfl rfl ?_
    refine WL.fin hK3637 (fun _ _ h => h) ?_
    refine WC.block ?_
    refine WC.seq fun K3638 hK3638 => ?_
    -- region 32
    refine WC.region ?_
    -- R32.0 152 := model.go:138 binOp
    refine WL.v (by exact r_eql rfl rfl (decide_eq_false (by omega))) rfl rfl rfl ?_
    -- R32.1 151 := model.go:138 assign
    refine WL.v (by first | exact r_assign (v := .bool _) rfl | exact r_assign rfl) rfl rfl rfl ?_
    refine WL.fin hK3638 (fun _ _ h => h) ?_
    refine WC.condF rfl rfl ?_
    refine WC.seq fun K3639 hK3639 => ?_
    -- region 39
    refine WC.region ?_
    -- R39.0 178 := model.go:147 binOp
    refine WL.v (by exact r_eql rfl rfl (decide_eq_true (by omega))) rfl rfl rfl ?_
    -- R39.1 177 := model.go:147 assign
    refine WL.v (by first | exact r_assign (v := .bool _) rfl | exact r_assign rfl) rfl rfl rfl ?_
    refine WL.fin hK3639 (fun _ _ h => h) ?_
    refine WC.condT rfl rfl ?_
    refine WC.seq fun K3640 hK3640 => ?_
    refine WC.seq fun K3641 hK3641 => ?_
    -- region 40
    refine WC.region ?_
    -- R40.0 179 := model.go:148 move
    refine WL.v (by first | exact r_move (v := .pointer _) rfl | exact r_move rfl) rfl rfl rfl ?_
    -- R40.1 180 := model.go:148 move
    refine WL.v (by first | exact r_move (v := .int _ _) rfl | exact r_move rfl) rfl rfl rfl ?_
    -- R40.2 181 := model.go:148 move
    refine WL.v (by first | exact r_move (v := .int _ _) rfl | exact r_move rfl) rfl rfl rfl ?_
    -- R40.3 182 := model.go:148 nilCheck
    refine WL.v (by exact r_nilCheck rfl) rfl rfl rfl ?_
    -- R40.4 183 := model.go:148 fieldAddr
    refine WL.v (by exact r_field ty_fld98_7 rfl) rfl rfl rfl ?_
    -- R40.5 184 := model.go:148 indexAddr
    refine WL.v (by exact r_indexA (j := t) ty_ar45 rfl rfl rfl ht) rfl rfl rfl ?_
    -- R40.6 185 := model.go:148 indexAddr
    refine WL.v (by exact r_indexA (j := r) ty_ar44 rfl rfl rfl hr20) rfl rfl rfl ?_
    -- R40.7 186 := model.go:148 load
    refine WL.v (by exact r_load1 (v := .int .i64 (s.held t r : Nat)) ty_one3 rfl (c_mheld (m := mrOf s) (List.mem_cons_of_mem _ (List.mem_cons_of_mem _ List.mem_cons_self)) ht hr20 (by omega) st)) rfl rfl rfl ?_
    -- R40.8 187 := model.go:148 binOp
    refine WL.v (by exact r_eql rfl rfl (decide_eq_false (by omega))) rfl rfl rfl ?_
    refine WL.fin hK3641 (fun _ _ h => h) ?_
    refine WC.condF rfl rfl ?_
    refine WC.skipF hK3640 (fun _ _ h => h) ?_
    refine WC.seq fun K3642 hK3642 => ?_
    refine WC.seq fun K3643 hK3643 => ?_
    -- region 42
    refine WC.region ?_
    -- R42.0 189 := model.go:151 move
    refine WL.v (by first | exact r_move (v := .pointer _) rfl | exact r_move rfl) rfl rfl rfl ?_
    -- R42.1 190 := model.go:151 move
    refine WL.v (by first | exact r_move (v := .int _ _) rfl | exact r_move rfl) rfl rfl rfl ?_
    -- R42.2 191 := model.go:151 nilCheck
    refine WL.v (by exact r_nilCheck rfl) rfl rfl rfl ?_
    -- R42.3 192 := model.go:151 fieldAddr
    refine WL.v (by exact r_field ty_fld98_11 rfl) rfl rfl rfl ?_
    -- R42.4 193 := model.go:151 indexAddr
    refine WL.v (by exact r_indexA (j := t) ty_ar73 rfl rfl rfl ht) rfl rfl rfl ?_
    -- R42.5 194 := model.go:151 load
    refine WL.v (by exact r_load1 (v := .map (some (mb t))) ty_one72 rfl (c_mbefore (List.mem_cons_of_mem _ (List.mem_cons_of_mem _ List.mem_cons_self)) ht (by omega) st)) rfl rfl rfl ?_
    -- R42.6 195 := model.go:151 move
    refine WL.v (by first | exact r_move (v := .int _ _) rfl | exact r_move rfl) rfl rfl rfl ?_
    -- R42.7 196 := model.go:151 binOp
    refine WL.v (by exact r_sub (r := (r : Int) - 8) rfl rfl (wi64 (by omega) (by omega))) rfl rfl rfl ?_
    -- R42.8 197 := model.go:151 lookup
    refine WL.v (by exact r_lookok (key := .int .i64 ((r : Int) - 8)) (v := .int .u64 ((ov.getD 0 : Nat) : Int)) (t := ov.isSome) ty_kb74 ty_mp72 ty_z126 rfl rfl st (List.mem_cons_of_mem _ List.mem_cons_self) hkg (by show (odV (odF s t) ((r : Int) - 8)).getD _ = _; rw [hodv]; cases ov <;> rfl) (by show (odV (odF s t) ((r : Int) - 8)).isSome = _; rw [hodv]; cases ov <;> rfl)) rfl rfl rfl ?_
    -- R42.9 188 := model.go:151 move
    refine WL.v (by first | exact r_move (v := .tuple _) rfl | exact r_move rfl) rfl rfl rfl ?_
    -- R42.10 198 := model.go:151 extract
    refine WL.v (by first | exact r_extract (v := .int _ _) rfl rfl | exact r_extract rfl rfl) rfl rfl rfl ?_
    -- R42.11 199 := model.go:151 extract
    refine WL.v (by first | exact r_extract (v := .bool _) rfl rfl | exact r_extract rfl rfl) rfl rfl rfl ?_
    -- R42.12 11 := model.go:151 assign
    refine WL.v (by first | exact r_assign (v := .int _ _) rfl | exact r_assign rfl) rfl rfl rfl ?_
    -- R42.13 12 := model.go:151 assign
    refine WL.v (by first | exact r_assign (v := .bool _) rfl | exact r_assign rfl) rfl rfl rfl ?_
    refine WL.fin hK3643 (fun _ _ h => h) ?_
    refine WC.seq fun K3644 hK3644 => ?_
    -- region 43
    refine WC.region ?_
    -- R43.0 200 := model.go:151 move
    refine WL.v (by first | exact r_move (v := .int _ _) rfl | exact r_move rfl) rfl rfl rfl ?_
    -- R43.1 201 := model.go:151 binOp
    refine WL.v (by exact r_geq rfl rfl (decide_eq_true (by omega))) rfl rfl rfl ?_
    -- R43.2 202 := model.go:151 move
    refine WL.v (by first | exact r_move (v := .bool _) rfl | exact r_move rfl) rfl rfl rfl ?_
    -- R43.3 203 := model.go:151 move
    refine WL.v (by exact r_move (v := .bool false) (congrArg Value.bool ho1)) rfl rfl rfl ?_
    -- R43.4 204 := model.go:151 pick
    refine WL.v (by first | exact r_pickT (v := .bool _) rfl rfl | exact r_pickF (v := .bool _) rfl rfl) rfl rfl rfl ?_
    refine WL.fin hK3644 (fun _ _ h => h) ?_
    refine WC.condF rfl rfl ?_
    refine WC.skipF hK3642 (fun _ _ h => h) ?_
    refine WC.seq fun K3645 hK3645 => ?_
    -- region 45
    refine WC.region ?_
    -- R45.0 205 := model.go:154 move
    refine WL.v (by first | exact r_move (v := .pointer _) rfl | exact r_move rfl) rfl rfl rfl ?_
    -- R45.1 206 := model.go:154 move
    refine WL.v (by first | exact r_move (v := .int _ _) rfl | exact r_move rfl) rfl rfl rfl ?_
    -- R45.2 207 := model.go:154 move
    refine WL.v (by first | exact r_move (v := .int _ _) rfl | exact r_move rfl) rfl rfl rfl ?_
    -- R45.3 208 := model.go:154 nilCheck
    refine WL.v (by exact r_nilCheck rfl) rfl rfl rfl ?_
    -- R45.4 209 := model.go:154 fieldAddr
    refine WL.v (by exact r_field ty_fld98_7 rfl) rfl rfl rfl ?_
    -- R45.5 210 := model.go:154 indexAddr
    refine WL.v (by exact r_indexA (j := t) ty_ar45 rfl rfl rfl ht) rfl rfl rfl ?_
    -- R45.6 211 := model.go:154 indexAddr
    refine WL.v (by exact r_indexA (j := r) ty_ar44 rfl rfl rfl hr20) rfl rfl rfl ?_
    -- R45.7 None := model.go:154 store
    refine WL.store (v := .int .i64 ((0 : Nat) : Int)) st.front2 ty_one3 rfl rfl rfl (by omega) rfl rfl ?_
    intro w st
    have st : S0 w0 (moI bm (mrOf { s with held := upd2 s.held t r 0 }) pv tv mb :: (b5, Row 28 5 (nth (opL o))) :: mpE (mb t) (odF s t) :: (XP ++ (XO ++ (R ++ l)))) w := stE (mw_held ht hr20) st
    have mh : MK w0 bm mb { s with held := upd2 s.held t r 0 } P l w := ⟨pv, XP, tv, XO, hp, ho, ((st.perm (by classical exact List.perm_iff_count.2 fun x => by simp only [List.count_append, List.count_cons, List.count_nil, List.append_eq, List.cons_append, List.nil_append, List.append_assoc, Nat.add_zero, Nat.zero_add] <;> ac_rfl) : S0 w0 ((b5, Row 28 5 (nth (opL o))) :: (moI bm (mrOf { s with held := upd2 s.held t r 0 }) pv tv mb :: (XP ++ (XO ++ ((mpE (mb t) (odF s t) :: R) ++ l))))) w).drop.perm ((((hR1.symm.append_right l).append_left XO).append_left XP).cons _))⟩
    refine WL.fin hK3645 (fun _ _ h => h) ?_
    refine WC.seq fun K3646 hK3646 => ?_
    -- region 46
    refine WC.region ?_
    -- R46.0 212 := model.go:155 move
    refine WL.v (by first | exact r_move (v := .pointer _) rfl | exact r_move rfl) rfl rfl rfl ?_
    -- R46.1 213 := model.go:155 call
    refine WL.call (r_call ty_call123 rfl) rfl rfl rfl (settle_ok hD (hB.held' (upd2_le hB.held (Nat.zero_le _))) (by omega) (rel_INV hI hc hr20 hntc) hct (hrel.same rfl fun _ => ⟨rfl, rfl⟩) mh) ?_
    rintro _ w ⟨rfl, P', hrel', st⟩
    refine WL.fin hK3646 (fun _ _ h => h) ?_
    refine WC.seq fun K3647 hK3647 => ?_
    -- region 47
    refine WC.region ?_
    -- R47.0 6 := model.go:156 assign
    refine WL.v (by first | exact r_assign (v := .int _ _) rfl | exact r_assign rfl) rfl rfl rfl ?_
    refine WL.fin hK3647 (fun _ _ h => h) ?_
    refine WC.ret1 Tryz.results99 (fun _ _ h => h) rfl ?_
    exact ⟨_, rfl, by rw [eS]; rfl, P', by rw [eS]; exact hrel', by rw [eS]; exact st⟩
  · skip
    refine enter [.pointer (some ⟨bm, 0, none⟩), .int .i64 (t : Nat), .agg (opL o).toArray] Tryz.func99 rfl Tryz.ntmps99 rfl ?_
    show WC _ _ _ 219 [] [(0, .pointer (some ⟨bm, 0, none⟩)), (1, .int .i64 (t : Nat)), (2, .agg (opL o).toArray)] _
    refine WC.seq fun K3648 hK3648 => ?_
    -- region 0
    refine WC.region ?_
    -- R0.0 5 := model.go:101 box
    refine WL.box (m := 5) (vs := opL o) st rfl rfl rfl rfl rfl rfl ?_
    intro b5 w st
    have st : S0 w0 ((b5, Row 28 5 (nth (opL o))) :: mpE (mb t) (odF s t) :: (moI bm (mrOf s) pv tv mb :: (XP ++ (XO ++ (R ++ l))))) w := st
    -- R0.1 6 := model.go:101 assign
    refine WL.v (by first | exact r_assign (v := .int _ _) rfl | exact r_assign rfl) rfl rfl rfl ?_
    refine WL.fin hK3648 (fun _ _ h => h) ?_
    refine WC.seq fun K3649 hK3649 => ?_
    refine WC.seq fun K3650 hK3650 => ?_
    -- region 1
    refine WC.region ?_
    -- R1.0 13 := model.go:102 fieldAddr
    refine WL.v (by exact r_field ty_fld28_0 rfl) rfl rfl rfl ?_
    -- R1.1 14 := model.go:102 load
    refine WL.v (by exact r_load1 (v := .int .u8 (o.kind : Nat)) ty_one25 rfl (st.c0 (by decide))) rfl rfl rfl ?_
    refine WL.fin hK3650 (fun _ _ h => h) ?_
    refine WC.block ?_
    refine WC.seq fun K3651 hK3651 => ?_
    -- region 2
    refine WC.region ?_
    -- R2.0 16 := model.go:103 binOp
    refine WL.v (by exact r_eql rfl rfl (decide_eq_false (by omega))) rfl rfl rfl ?_
    -- R2.1 15 := model.go:103 assign
    refine WL.v (by first | exact r_assign (v := .bool _) rfl | exact r_assign rfl) rfl rfl rfl ?_
    refine WL.fin hK3651 (fun _ _ h => h) ?_
    refine WC.condF rfl rfl ?_
    refine WC.seq fun K3652 hK3652 => ?_
    -- region 6
    refine WC.region ?_
    -- R6.0 29 := model.go:107 binOp
    refine WL.v (by exact r_eql rfl rfl (decide_eq_false (by omega))) rfl rfl rfl ?_
    -- R6.1 28 := model.go:107 assign
    refine WL.v (by first | exact r_assign (v := .bool _) rfl | exact r_assign rfl) rfl rfl rfl ?_
    refine WL.fin hK3652 (fun _ _ h => h) ?_
    refine WC.condF rfl rfl ?_
    refine WC.seq fun K3653 hK3653 => ?_
    -- region 14
    refine WC.region ?_
    -- R14.0 76 := model.go:115 binOp
    refine WL.v (by exact r_eql rfl rfl (decide_eq_false (by omega))) rfl rfl rfl ?_
    -- R14.1 75 := model.go:115 assign
    refine WL.v (by first | exact r_assign (v := .bool _) rfl | exact r_assign rfl) rfl rfl rfl ?_
    refine WL.fin hK3653 (fun _ _ h => h) ?_
    refine WC.condF rfl rfl ?_
    refine WC.skipF hK3649 (fun _ _ h => h) ?_
    refine WC.seq fun K3654 hK3654 => ?_
    refine WC.seq fun K3655 hK3655 => ?_
    -- region 28
    refine WC.region ?_
    -- R28.0 143 := model.go:133 fieldAddr
    refine WL.v (by exact r_field ty_fld28_2 rfl) rfl rfl rfl ?_
    -- R28.1 144 := model.go:133 load
    refine WL.v (by exact r_load1 (v := .int .i64 o.B) ty_one2 rfl (st.c0 (by decide))) rfl rfl rfl ?_
    -- R28.2 145 := model.go:133 call
    refine WL.call (r_call ty_call93 rfl) rfl rfl rfl (withinM_ok (v := o.B) (n := 20) st) ?_
    rintro _ w ⟨he, st⟩
    have he : _ = Value.bool true := he.trans (by unfold wiP; rw [decide_eq_true hb])
    subst he
    -- R28.3 146 := model.go:133 unOp
    refine WL.v (by first | exact r_notT rfl | exact r_notF rfl | exact r_not rfl) rfl rfl rfl ?_
    refine WL.fin hK3655 (fun _ _ h => h) ?_
    refine WC.condF rfl rfl ?_
    refine WC.skipF hK3654 (fun _ _ h => h) ?_
    refine WC.seq fun K3656 hK3656 => ?_
    -- region 30
    refine WC.region ?_
    -- R30.0 147 := model.go:136 fieldAddr
    refine WL.v (by exact r_field ty_fld28_2 rfl) rfl rfl rfl ?_
    -- R30.1 148 := model.go:136 load
    refine WL.v (by exact r_load1 (v := .int .i64 (r : Nat)) ty_one2 rfl (by rw [← hr]; exact st.c0 (by decide))) rfl rfl rfl ?_
    -- R30.2 10 := model.go:136 assign
    refine WL.v (by first | exact r_assign (v := .int _ _) rfl | exact r_assign rfl) rfl rfl rfl ?_
    refine WL.fin hK3656 (fun _ _ h => h) ?_
    refine WC.seq fun K3657 hK3657 => ?_
    refine WC.seq fun K3658 hK3658 => ?_
    -- region 31
    refine WC.region ?_
    -- R31.0 149 := model.go:137 fieldAddr
    refine WL.v (by exact r_field ty_fld28_0 rfl) rfl rfl rfl ?_
    -- R31.1 150 := model.go:137 load
    refine WL.v (by exact r_load1 (v := .int .u8 (o.kind : Nat)) ty_one25 rfl (st.c0 (by decide))) rfl rfl rfl ?_
    refine WL.fin hK3658 (fun _ _ h => h) ?_
    refine WC.block ?_
    refine WC.seq fun K3659 hK3659 => ?_
    -- region 32
    refine WC.region ?_
    -- R32.0 152 := model.go:138 binOp
    refine WL.v (by exact r_eql rfl rfl (decide_eq_false (by omega))) rfl rfl rfl ?_
    -- R32.1 151 := model.go:138 assign
    refine WL.v (by first | exact r_assign (v := .bool _) rfl | exact r_assign rfl) rfl rfl rfl ?_
    refine WL.fin hK3659 (fun _ _ h => h) ?_
    refine WC.condF rfl rfl ?_
    refine WC.seq fun K3660 hK3660 => ?_
    -- region 39
    refine WC.region ?_
    -- R39.0 178 := model.go:147 binOp
    refine WL.v (by exact r_eql rfl rfl (decide_eq_true (by omega))) rfl rfl rfl ?_
    -- R39.1 177 := model.go:147 assign
    refine WL.v (by first | exact r_assign (v := .bool _) rfl | exact r_assign rfl) rfl rfl rfl ?_
    refine WL.fin hK3660 (fun _ _ h => h) ?_
    refine WC.condT rfl rfl ?_
    refine WC.seq fun K3661 hK3661 => ?_
    refine WC.seq fun K3662 hK3662 => ?_
    -- region 40
    refine WC.region ?_
    -- R40.0 179 := model.go:148 move
    refine WL.v (by first | exact r_move (v := .pointer _) rfl | exact r_move rfl) rfl rfl rfl ?_
    -- R40.1 180 := model.go:148 move
    refine WL.v (by first | exact r_move (v := .int _ _) rfl | exact r_move rfl) rfl rfl rfl ?_
    -- R40.2 181 := model.go:148 move
    refine WL.v (by first | exact r_move (v := .int _ _) rfl | exact r_move rfl) rfl rfl rfl ?_
    -- R40.3 182 := model.go:148 nilCheck
    refine WL.v (by exact r_nilCheck rfl) rfl rfl rfl ?_
    -- R40.4 183 := model.go:148 fieldAddr
    refine WL.v (by exact r_field ty_fld98_7 rfl) rfl rfl rfl ?_
    -- R40.5 184 := model.go:148 indexAddr
    refine WL.v (by exact r_indexA (j := t) ty_ar45 rfl rfl rfl ht) rfl rfl rfl ?_
    -- R40.6 185 := model.go:148 indexAddr
    refine WL.v (by exact r_indexA (j := r) ty_ar44 rfl rfl rfl hr20) rfl rfl rfl ?_
    -- R40.7 186 := model.go:148 load
    refine WL.v (by exact r_load1 (v := .int .i64 (s.held t r : Nat)) ty_one3 rfl (c_mheld (m := mrOf s) (List.mem_cons_of_mem _ (List.mem_cons_of_mem _ List.mem_cons_self)) ht hr20 (by omega) st)) rfl rfl rfl ?_
    -- R40.8 187 := model.go:148 binOp
    refine WL.v (by exact r_eql rfl rfl (decide_eq_false (by omega))) rfl rfl rfl ?_
    refine WL.fin hK3662 (fun _ _ h => h) ?_
    refine WC.condF rfl rfl ?_
    refine WC.skipF hK3661 (fun _ _ h => h) ?_
    refine WC.seq fun K3663 hK3663 => ?_
    refine WC.seq fun K3664 hK3664 => ?_
    -- region 42
    refine WC.region ?_
    -- R42.0 189 := model.go:151 move
    refine WL.v (by first | exact r_move (v := .pointer _) rfl | exact r_move rfl) rfl rfl rfl ?_
    -- R42.1 190 := model.go:151 move
    refine WL.v (by first | exact r_move (v := .int _ _) rfl | exact r_move rfl) rfl rfl rfl ?_
    -- R42.2 191 := model.go:151 nilCheck
    refine WL.v (by exact r_nilCheck rfl) rfl rfl rfl ?_
    -- R42.3 192 := model.go:151 fieldAddr
    refine WL.v (by exact r_field ty_fld98_11 rfl) rfl rfl rfl ?_
    -- R42.4 193 := model.go:151 indexAddr
    refine WL.v (by exact r_indexA (j := t) ty_ar73 rfl rfl rfl ht) rfl rfl rfl ?_
    -- R42.5 194 := model.go:151 load
    refine WL.v (by exact r_load1 (v := .map (some (mb t))) ty_one72 rfl (c_mbefore (List.mem_cons_of_mem _ (List.mem_cons_of_mem _ List.mem_cons_self)) ht (by omega) st)) rfl rfl rfl ?_
    -- R42.6 195 := model.go:151 move
    refine WL.v (by first | exact r_move (v := .int _ _) rfl | exact r_move rfl) rfl rfl rfl ?_
    -- R42.7 196 := model.go:151 binOp
    refine WL.v (by exact r_sub (r := (r : Int) - 8) rfl rfl (wi64 (by omega) (by omega))) rfl rfl rfl ?_
    -- R42.8 197 := model.go:151 lookup
    refine WL.v (by exact r_lookok (key := .int .i64 ((r : Int) - 8)) (v := .int .u64 ((ov.getD 0 : Nat) : Int)) (t := ov.isSome) ty_kb74 ty_mp72 ty_z126 rfl rfl st (List.mem_cons_of_mem _ List.mem_cons_self) hkg (by show (odV (odF s t) ((r : Int) - 8)).getD _ = _; rw [hodv]; cases ov <;> rfl) (by show (odV (odF s t) ((r : Int) - 8)).isSome = _; rw [hodv]; cases ov <;> rfl)) rfl rfl rfl ?_
    -- R42.9 188 := model.go:151 move
    refine WL.v (by first | exact r_move (v := .tuple _) rfl | exact r_move rfl) rfl rfl rfl ?_
    -- R42.10 198 := model.go:151 extract
    refine WL.v (by first | exact r_extract (v := .int _ _) rfl rfl | exact r_extract rfl rfl) rfl rfl rfl ?_
    -- R42.11 199 := model.go:151 extract
    refine WL.v (by first | exact r_extract (v := .bool _) rfl rfl | exact r_extract rfl rfl) rfl rfl rfl ?_
    -- R42.12 11 := model.go:151 assign
    refine WL.v (by first | exact r_assign (v := .int _ _) rfl | exact r_assign rfl) rfl rfl rfl ?_
    -- R42.13 12 := model.go:151 assign
    refine WL.v (by first | exact r_assign (v := .bool _) rfl | exact r_assign rfl) rfl rfl rfl ?_
    refine WL.fin hK3664 (fun _ _ h => h) ?_
    refine WC.seq fun K3665 hK3665 => ?_
    -- region 43
    refine WC.region ?_
    -- R43.0 200 := model.go:151 move
    refine WL.v (by first | exact r_move (v := .int _ _) rfl | exact r_move rfl) rfl rfl rfl ?_
    -- R43.1 201 := model.go:151 binOp
    refine WL.v (by exact r_geq rfl rfl (decide_eq_false (by omega))) rfl rfl rfl ?_
    -- R43.2 202 := model.go:151 move
    refine WL.v (by first | exact r_move (v := .bool _) rfl | exact r_move rfl) rfl rfl rfl ?_
    -- R43.3 203 := model.go:151 move
    refine WL.no rfl rfl ?_
    -- R43.4 204 := model.go:151 pick
    refine WL.v (by first | exact r_pickT (v := .bool _) rfl rfl | exact r_pickF (v := .bool _) rfl rfl) rfl rfl rfl ?_
    refine WL.fin hK3665 (fun _ _ h => h) ?_
    refine WC.condF rfl rfl ?_
    refine WC.skipF hK3663 (fun _ _ h => h) ?_
    refine WC.seq fun K3666 hK3666 => ?_
    -- region 45
    refine WC.region ?_
    -- R45.0 205 := model.go:154 move
    refine WL.v (by first | exact r_move (v := .pointer _) rfl | exact r_move rfl) rfl rfl rfl ?_
    -- R45.1 206 := model.go:154 move
    refine WL.v (by first | exact r_move (v := .int _ _) rfl | exact r_move rfl) rfl rfl rfl ?_
    -- R45.2 207 := model.go:154 move
    refine WL.v (by first | exact r_move (v := .int _ _) rfl | exact r_move rfl) rfl rfl rfl ?_
    -- R45.3 208 := model.go:154 nilCheck
    refine WL.v (by exact r_nilCheck rfl) rfl rfl rfl ?_
    -- R45.4 209 := model.go:154 fieldAddr
    refine WL.v (by exact r_field ty_fld98_7 rfl) rfl rfl rfl ?_
    -- R45.5 210 := model.go:154 indexAddr
    refine WL.v (by exact r_indexA (j := t) ty_ar45 rfl rfl rfl ht) rfl rfl rfl ?_
    -- R45.6 211 := model.go:154 indexAddr
    refine WL.v (by exact r_indexA (j := r) ty_ar44 rfl rfl rfl hr20) rfl rfl rfl ?_
    -- R45.7 None := model.go:154 store
    refine WL.store (v := .int .i64 ((0 : Nat) : Int)) st.front2 ty_one3 rfl rfl rfl (by omega) rfl rfl ?_
    intro w st
    have st : S0 w0 (moI bm (mrOf { s with held := upd2 s.held t r 0 }) pv tv mb :: (b5, Row 28 5 (nth (opL o))) :: mpE (mb t) (odF s t) :: (XP ++ (XO ++ (R ++ l)))) w := stE (mw_held ht hr20) st
    have mh : MK w0 bm mb { s with held := upd2 s.held t r 0 } P l w := ⟨pv, XP, tv, XO, hp, ho, ((st.perm (by classical exact List.perm_iff_count.2 fun x => by simp only [List.count_append, List.count_cons, List.count_nil, List.append_eq, List.cons_append, List.nil_append, List.append_assoc, Nat.add_zero, Nat.zero_add] <;> ac_rfl) : S0 w0 ((b5, Row 28 5 (nth (opL o))) :: (moI bm (mrOf { s with held := upd2 s.held t r 0 }) pv tv mb :: (XP ++ (XO ++ ((mpE (mb t) (odF s t) :: R) ++ l))))) w).drop.perm ((((hR1.symm.append_right l).append_left XO).append_left XP).cons _))⟩
    refine WL.fin hK3666 (fun _ _ h => h) ?_
    refine WC.seq fun K3667 hK3667 => ?_
    -- region 46
    refine WC.region ?_
    -- R46.0 212 := model.go:155 move
    refine WL.v (by first | exact r_move (v := .pointer _) rfl | exact r_move rfl) rfl rfl rfl ?_
    -- R46.1 213 := model.go:155 call
    refine WL.call (r_call ty_call123 rfl) rfl rfl rfl (settle_ok hD (hB.held' (upd2_le hB.held (Nat.zero_le _))) (by omega) (rel_INV hI hc hr20 hntc) hct (hrel.same rfl fun _ => ⟨rfl, rfl⟩) mh) ?_
    rintro _ w ⟨rfl, P', hrel', st⟩
    refine WL.fin hK3667 (fun _ _ h => h) ?_
    refine WC.seq fun K3668 hK3668 => ?_
    -- region 47
    refine WC.region ?_
    -- R47.0 6 := model.go:156 assign
    refine WL.v (by first | exact r_assign (v := .int _ _) rfl | exact r_assign rfl) rfl rfl rfl ?_
    refine WL.fin hK3668 (fun _ _ h => h) ?_
    refine WC.ret1 Tryz.results99 (fun _ _ h => h) rfl ?_
    exact ⟨_, rfl, by rw [eS]; rfl, P', by rw [eS]; exact hrel', by rw [eS]; exact st⟩
end Go.Proofs.Qxb6500834aGreatDoor

