import Derived.Test.Qxb6500834aGreatDoorK93
import Derived.Test.Qxb6500834aGreatDoorK56
set_option linter.unusedVariables false
set_option linter.unusedSimpArgs false
set_option maxRecDepth 20000
namespace Go.Proofs.Qxb6500834aGreatDoor
open Go.RowKit Go.E1 Go.Kern
theorem ty_call94 : callT Tryz.prog 94 = true := by kernel_rfl
theorem ty_call96 : callT Tryz.prog 96 = true := by kernel_rfl
theorem ty_call97 : callT Tryz.prog 97 = true := by kernel_rfl
theorem ty_call99 : callT Tryz.prog 99 = true := by kernel_rfl
theorem ty_fld98_2 : fldOff Tryz.prog 98 2 = some 2 := by kernel_rfl
variable {w0 : World} {l X : List HI} {w : World} {s s' s0 : KS} {t r N n : Nat} {qv qv' : Nat → Value}
variable {P : List PQ} {m : MR} {pv tv v : Value} {mb : Nat → Nat} {bm : Nat} {T : List (Nat × Nat × Nat)} {O : Nat → Nat → Option Nat} {held claim : Nat → Nat → Nat}

/-! The model's step. -/
theorem step_refuse {o : Kern.Op} {c : Int} (h2 : 2 ≤ o.kind) (h9 : o.kind ≤ 9) (hc : callerP s (nameP o.A 16) = c) (h0 : c ≠ 0) : stepP s o = (s, c, -1) := by
  subst hc
  unfold stepP
  rcases (by omega : o.kind = 2 ∨ o.kind = 3 ∨ o.kind = 4 ∨ o.kind = 5 ∨ o.kind = 6 ∨ o.kind = 7 ∨ o.kind = 8 ∨ o.kind = 9) with h | h | h | h | h | h | h | h <;> rw [h]
  · show ((declareK s (nameP o.A 16) (nameP o.B 20) (nameP o.C 17)).1, (declareK s (nameP o.A 16) (nameP o.B 20) (nameP o.C 17)).2, (-1 : Int)) = _
    unfold declareK; rw [if_pos h0]
  · show ((acquireP s (nameP o.A 16) (nameP o.B 20) (nameP o.C 17) none).1, (acquireP s (nameP o.A 16) (nameP o.B 20) (nameP o.C 17) none).2, (-1 : Int)) = _
    unfold acquireP; rw [if_pos h0]
  · show ((acquireP s (nameP o.A 16) (nameP o.B 20) (nameP o.C 17) (some 0)).1, (acquireP s (nameP o.A 16) (nameP o.B 20) (nameP o.C 17) (some 0)).2, (-1 : Int)) = _
    unfold acquireP; rw [if_pos h0]
  · show ((acquireP s (nameP o.A 16) (nameP o.B 20) (nameP o.C 17) (some o.X)).1, (acquireP s (nameP o.A 16) (nameP o.B 20) (nameP o.C 17) (some o.X)).2, (-1 : Int)) = _
    unfold acquireP; rw [if_pos h0]
  · show ((releaseP s (nameP o.A 16) (nameP o.B 20)).1, (releaseP s (nameP o.A 16) (nameP o.B 20)).2, (-1 : Int)) = _
    unfold releaseP; rw [if_pos h0]
  · show ((writeP s (nameP o.A 16) (nameP o.B 12) o.X).1, (writeP s (nameP o.A 16) (nameP o.B 12) o.X).2, (-1 : Int)) = _
    unfold writeP; rw [if_pos h0]
  · show ((commitP s (nameP o.A 16)).1, (commitP s (nameP o.A 16)).2, (-1 : Int)) = _
    unfold commitP; rw [if_pos h0]
  · show ((exitP s (nameP o.A 16)).1, (exitP s (nameP o.A 16)).2, (-1 : Int)) = _
    unfold exitP; rw [if_pos h0]
theorem hi_wl (hI : INV s) (h : (s.tk t).waiting = true) : (s.tk t).live = true := hI.wl t h
theorem mr_born (hn : (s.tk t).n = 0) : mrOf (bornS s t) = { mrOf s with births := s.births + 1, live := updN (mrOf s).live t true, birth := updN (mrOf s).birth t (s.births + 1) } := by
  unfold mrOf bornS
  have e1 : (fun a => (updN s.tk t (bornT s t) a).live) = updN (fun a => (s.tk a).live) t true := by funext a; unfold updN; split <;> rfl
  have e2 : (fun a => (updN s.tk t (bornT s t) a).birth) = updN (fun a => (s.tk a).birth) t (s.births + 1) := by funext a; unfold updN; split <;> rfl
  have e3 : (fun a => (updN s.tk t (bornT s t) a).epoch) = fun a => (s.tk a).epoch := by
    funext a; unfold updN; split
    · rename_i e; rw [e]; rfl
    · rfl
  have e4 : (fun a => (updN s.tk t (bornT s t) a).n) = fun a => (s.tk a).n := by
    funext a; unfold updN; split
    · rename_i e; rw [e, hn]; rfl
    · rfl
  show MR.mk _ _ _ _ (fun a => (updN s.tk t (bornT s t) a).live) (fun a => (updN s.tk t (bornT s t) a).birth) (fun a => (updN s.tk t (bornT s t) a).epoch) _ _ _ (fun a => (updN s.tk t (bornT s t) a).n) = _
  rw [e1, e2, e3, e4]
theorem od_born (hn : (s.tk t).n = 0) : odF (bornS s t) = odF s := by
  funext a c
  exact od_upd (s := s) (t := t) (T := bornT s t) (f := odF s) rfl (fun c => (old_n0 rfl).trans (old_n0 hn).symm) (fun _ _ _ => rfl) a c
set_option maxHeartbeats 8000000 in
theorem stepM_ok {o : Kern.Op} (hD : gD w0) (hkd : o.kind < 256) (hX64 : o.X < 18446744073709551616) (hC1 : -9223372036854775808 ≤ o.C) (hC2 : o.C < 9223372036854775808) (hB : KB N s) (hN : N + N + 200 ≤ 1000000) (hI : INV s) (hct : CT s) (hbi : BI s) (hti : TI s []) (hdu : Due s) (hvn : VN s) (hnow : s.now ≤ 1000000) (harm : s.armed ≤ 1000000) (hbr : s.births ≤ 1000000) (hrel : RelP s P) (st : MK w0 bm mb s P l w) :
    Calls Tryz.prog 69 #[.pointer (some ⟨bm, 0, none⟩), .agg (opL o).toArray] w (Ret fun v w' => v = .tuple #[.int .i64 (stepP s o).2.1, .int .i64 (stepP s o).2.2] ∧ ∃ P', RelP (stepP s o).1 P' ∧ MK w0 bm mb (stepP s o).1 P' l w') := by
  obtain ⟨pv, XP, tv, XO, hp, ho, st⟩ := st
  by_cases hk0 : o.kind = 0
  · have eR : stepP s o = ((setModeP s (nameP o.A 4)).1, (setModeP s (nameP o.A 4)).2, -1) := by unfold stepP; rw [hk0]; rfl
    by_cases ha : 0 ≤ o.A ∧ o.A < 4
    rotate_left
    · have eS : stepP s o = (s, 7, -1) := by rw [eR]; unfold setModeP; rw [show nameP o.A 4 = -1 from if_pos (by omega), if_pos (.inl (by decide))]
      refine enter [.pointer (some ⟨bm, 0, none⟩), .agg (opL o).toArray] Tryz.func69 rfl Tryz.ntmps69 rfl ?_
      show WC _ _ _ 91 [] [(0, .pointer (some ⟨bm, 0, none⟩)), (1, .agg (opL o).toArray)] _
      refine WC.seq fun K3820 hK3820 => ?_
      -- region 0
      refine WC.region ?_
      -- R0.0 3 := model.go:59 box
      refine WL.box (m := 5) (vs := opL o) st rfl rfl rfl rfl rfl rfl ?_
      intro b3 w st
      have st : S0 w0 ((b3, Row 28 5 (nth (opL o))) :: moI bm (mrOf s) pv tv mb :: (XP ++ (XO ++ (mpI mb (odF s) ++ l)))) w := st
      -- R0.1 4 := model.go:59 assign
      refine WL.v (by first | exact r_assign (v := .int _ _) rfl | exact r_assign rfl) rfl rfl rfl ?_
      -- R0.2 5 := model.go:59 assign
      refine WL.v (by first | exact r_assign (v := .int _ _) rfl | exact r_assign rfl) rfl rfl rfl ?_
      refine WL.fin hK3820 (fun _ _ h => h) ?_
      refine WC.seq fun K3821 hK3821 => ?_
      refine WC.seq fun K3822 hK3822 => ?_
      -- region 1
      refine WC.region ?_
      -- R1.0 8 := model.go:60 fieldAddr
      refine WL.v (by exact r_field ty_fld28_0 rfl) rfl rfl rfl ?_
      -- R1.1 9 := model.go:60 load
      refine WL.v (by exact r_load1 (v := .int .u8 (o.kind : Nat)) ty_one25 rfl (st.c0 (by decide))) rfl rfl rfl ?_
      refine WL.fin hK3822 (fun _ _ h => h) ?_
      refine WC.block ?_
      refine WC.seq fun K3823 hK3823 => ?_
      -- region 2
      refine WC.region ?_
      -- R2.0 11 := model.go:61 binOp
      refine WL.v (by exact r_eql rfl rfl (decide_eq_true (by omega))) rfl rfl rfl ?_
      -- R2.1 10 := model.go:61 assign
      refine WL.v (by first | exact r_assign (v := .bool _) rfl | exact r_assign rfl) rfl rfl rfl ?_
      refine WL.fin hK3823 (fun _ _ h => h) ?_
      refine WC.condT rfl rfl ?_
      refine WC.seq fun K3824 hK3824 => ?_
      refine WC.seq fun K3825 hK3825 => ?_
      -- region 3
      refine WC.region ?_
      -- R3.0 12 := model.go:62 fieldAddr
      refine WL.v (by exact r_field ty_fld28_1 rfl) rfl rfl rfl ?_
      -- R3.1 13 := model.go:62 load
      refine WL.v (by exact r_load1 (v := .int .i64 o.A) ty_one2 rfl (st.c0 (by decide))) rfl rfl rfl ?_
      -- R3.2 14 := model.go:62 call
      refine WL.call (r_call ty_call93 rfl) rfl rfl rfl (withinM_ok (v := o.A) (n := 4) st) ?_
      rintro _ w ⟨he, st⟩
      have he : _ = Value.bool false := he.trans (by unfold wiP; rw [decide_eq_false ha])
      subst he
      -- R3.3 15 := model.go:62 unOp
      refine WL.v (by first | exact r_notT rfl | exact r_notF rfl | exact r_not rfl) rfl rfl rfl ?_
      refine WL.fin hK3825 (fun _ _ h => h) ?_
      refine WC.condT rfl rfl ?_
      refine WC.seq fun K3826 hK3826 => ?_
      -- region 4
      refine WC.region ?_
      -- R4.0 4 := model.go:63 assign
      refine WL.v (by first | exact r_assign (v := .int _ _) rfl | exact r_assign rfl) rfl rfl rfl ?_
      -- R4.1 5 := model.go:63 assign
      refine WL.v (by first | exact r_assign (v := .int _ _) rfl | exact r_assign rfl) rfl rfl rfl ?_
      refine WL.fin hK3826 (fun _ _ h => h) ?_
      refine WC.ret2 Tryz.results69 (fun _ _ h => h) rfl ?_
      exact ⟨_, rfl, by rw [eS]; rfl, P, by rw [eS]; exact hrel, by rw [eS]; exact ⟨pv, XP, tv, XO, hp, ho, st.drop⟩⟩
    obtain ⟨q, hq⟩ : ∃ q : Nat, o.A = q := ⟨o.A.toNat, by omega⟩
    have eM : setModeP s (nameP o.A 4) = if anyLive s then (s, 8) else ({ s with mode := q }, 0) := by
      unfold setModeP
      rw [show nameP o.A 4 = (q : Int) by rw [hq]; exact nameP_eq (by omega), if_neg (by omega), Int.toNat_natCast]
    rcases hl : anyLive s with _ | _
    rotate_left
    · have eS : stepP s o = (s, 8, -1) := by rw [eR, eM, hl]; rfl
      refine enter [.pointer (some ⟨bm, 0, none⟩), .agg (opL o).toArray] Tryz.func69 rfl Tryz.ntmps69 rfl ?_
      show WC _ _ _ 91 [] [(0, .pointer (some ⟨bm, 0, none⟩)), (1, .agg (opL o).toArray)] _
      refine WC.seq fun K3827 hK3827 => ?_
      -- region 0
      refine WC.region ?_
      -- R0.0 3 := model.go:59 box
      refine WL.box (m := 5) (vs := opL o) st rfl rfl rfl rfl rfl rfl ?_
      intro b3 w st
      have st : S0 w0 ((b3, Row 28 5 (nth (opL o))) :: moI bm (mrOf s) pv tv mb :: (XP ++ (XO ++ (mpI mb (odF s) ++ l)))) w := st
      -- R0.1 4 := model.go:59 assign
      refine WL.v (by first | exact r_assign (v := .int _ _) rfl | exact r_assign rfl) rfl rfl rfl ?_
      -- R0.2 5 := model.go:59 assign
      refine WL.v (by first | exact r_assign (v := .int _ _) rfl | exact r_assign rfl) rfl rfl rfl ?_
      refine WL.fin hK3827 (fun _ _ h => h) ?_
      refine WC.seq fun K3828 hK3828 => ?_
      refine WC.seq fun K3829 hK3829 => ?_
      -- region 1
      refine WC.region ?_
      -- R1.0 8 := model.go:60 fieldAddr
      refine WL.v (by exact r_field ty_fld28_0 rfl) rfl rfl rfl ?_
      -- R1.1 9 := model.go:60 load
      refine WL.v (by exact r_load1 (v := .int .u8 (o.kind : Nat)) ty_one25 rfl (st.c0 (by decide))) rfl rfl rfl ?_
      refine WL.fin hK3829 (fun _ _ h => h) ?_
      refine WC.block ?_
      refine WC.seq fun K3830 hK3830 => ?_
      -- region 2
      refine WC.region ?_
      -- R2.0 11 := model.go:61 binOp
      refine WL.v (by exact r_eql rfl rfl (decide_eq_true (by omega))) rfl rfl rfl ?_
      -- R2.1 10 := model.go:61 assign
      refine WL.v (by first | exact r_assign (v := .bool _) rfl | exact r_assign rfl) rfl rfl rfl ?_
      refine WL.fin hK3830 (fun _ _ h => h) ?_
      refine WC.condT rfl rfl ?_
      refine WC.seq fun K3831 hK3831 => ?_
      refine WC.seq fun K3832 hK3832 => ?_
      -- region 3
      refine WC.region ?_
      -- R3.0 12 := model.go:62 fieldAddr
      refine WL.v (by exact r_field ty_fld28_1 rfl) rfl rfl rfl ?_
      -- R3.1 13 := model.go:62 load
      refine WL.v (by exact r_load1 (v := .int .i64 o.A) ty_one2 rfl (st.c0 (by decide))) rfl rfl rfl ?_
      -- R3.2 14 := model.go:62 call
      refine WL.call (r_call ty_call93 rfl) rfl rfl rfl (withinM_ok (v := o.A) (n := 4) st) ?_
      rintro _ w ⟨he, st⟩
      have he : _ = Value.bool true := he.trans (by unfold wiP; rw [decide_eq_true ha])
      subst he
      -- R3.3 15 := model.go:62 unOp
      refine WL.v (by first | exact r_notT rfl | exact r_notF rfl | exact r_not rfl) rfl rfl rfl ?_
      refine WL.fin hK3832 (fun _ _ h => h) ?_
      refine WC.condF rfl rfl ?_
      refine WC.skipF hK3831 (fun _ _ h => h) ?_
      refine WC.seq fun K3833 hK3833 => ?_
      refine WC.seq fun K3834 hK3834 => ?_
      -- region 5
      refine WC.region ?_
      -- R5.0 16 := model.go:65 move
      refine WL.v (by first | exact r_move (v := .pointer _) rfl | exact r_move rfl) rfl rfl rfl ?_
      -- R5.1 17 := model.go:65 nilCheck
      refine WL.v (by exact r_nilCheck rfl) rfl rfl rfl ?_
      -- R5.2 18 := model.go:65 fieldAddr
      refine WL.v (by exact r_field ty_fld98_4 rfl) rfl rfl rfl ?_
      -- R5.3 19 := model.go:65 slice
      refine WL.v (by exact r_slAr ty_ar86 rfl) rfl rfl rfl ?_
      -- R5.4 20 := model.go:65 call
      refine WL.call (r_call ty_call94 rfl) rfl rfl rfl (containsB_ok (List.mem_cons_of_mem _ List.mem_cons_self) st) ?_
      rintro _ w ⟨he, st⟩
      rw [hl] at he
      subst he
      refine WL.fin hK3834 (fun _ _ h => h) ?_
      refine WC.condT rfl rfl ?_
      refine WC.seq fun K3835 hK3835 => ?_
      -- region 6
      refine WC.region ?_
      -- R6.0 4 := model.go:66 assign
      refine WL.v (by first | exact r_assign (v := .int _ _) rfl | exact r_assign rfl) rfl rfl rfl ?_
      -- R6.1 5 := model.go:66 assign
      refine WL.v (by first | exact r_assign (v := .int _ _) rfl | exact r_assign rfl) rfl rfl rfl ?_
      refine WL.fin hK3835 (fun _ _ h => h) ?_
      refine WC.ret2 Tryz.results69 (fun _ _ h => h) rfl ?_
      exact ⟨_, rfl, by rw [eS]; rfl, P, by rw [eS]; exact hrel, by rw [eS]; exact ⟨pv, XP, tv, XO, hp, ho, st.drop⟩⟩
    · have eS : stepP s o = ({ s with mode := q }, 0, -1) := by rw [eR, eM, hl]; rfl
      refine enter [.pointer (some ⟨bm, 0, none⟩), .agg (opL o).toArray] Tryz.func69 rfl Tryz.ntmps69 rfl ?_
      show WC _ _ _ 91 [] [(0, .pointer (some ⟨bm, 0, none⟩)), (1, .agg (opL o).toArray)] _
      refine WC.seq fun K3836 hK3836 => ?_
      -- region 0
      refine WC.region ?_
      -- R0.0 3 := model.go:59 box
      refine WL.box (m := 5) (vs := opL o) st rfl rfl rfl rfl rfl rfl ?_
      intro b3 w st
      have st : S0 w0 ((b3, Row 28 5 (nth (opL o))) :: moI bm (mrOf s) pv tv mb :: (XP ++ (XO ++ (mpI mb (odF s) ++ l)))) w := st
      -- R0.1 4 := model.go:59 assign
      refine WL.v (by first | exact r_assign (v := .int _ _) rfl | exact r_assign rfl) rfl rfl rfl ?_
      -- R0.2 5 := model.go:59 assign
      refine WL.v (by first | exact r_assign (v := .int _ _) rfl | exact r_assign rfl) rfl rfl rfl ?_
      refine WL.fin hK3836 (fun _ _ h => h) ?_
      refine WC.seq fun K3837 hK3837 => ?_
      refine WC.seq fun K3838 hK3838 => ?_
      -- region 1
      refine WC.region ?_
      -- R1.0 8 := model.go:60 fieldAddr
      refine WL.v (by exact r_field ty_fld28_0 rfl) rfl rfl rfl ?_
      -- R1.1 9 := model.go:60 load
      refine WL.v (by exact r_load1 (v := .int .u8 (o.kind : Nat)) ty_one25 rfl (st.c0 (by decide))) rfl rfl rfl ?_
      refine WL.fin hK3838 (fun _ _ h => h) ?_
      refine WC.block ?_
      refine WC.seq fun K3839 hK3839 => ?_
      -- region 2
      refine WC.region ?_
      -- R2.0 11 := model.go:61 binOp
      refine WL.v (by exact r_eql rfl rfl (decide_eq_true (by omega))) rfl rfl rfl ?_
      -- R2.1 10 := model.go:61 assign
      refine WL.v (by first | exact r_assign (v := .bool _) rfl | exact r_assign rfl) rfl rfl rfl ?_
      refine WL.fin hK3839 (fun _ _ h => h) ?_
      refine WC.condT rfl rfl ?_
      refine WC.seq fun K3840 hK3840 => ?_
      refine WC.seq fun K3841 hK3841 => ?_
      -- region 3
      refine WC.region ?_
      -- R3.0 12 := model.go:62 fieldAddr
      refine WL.v (by exact r_field ty_fld28_1 rfl) rfl rfl rfl ?_
      -- R3.1 13 := model.go:62 load
      refine WL.v (by exact r_load1 (v := .int .i64 o.A) ty_one2 rfl (st.c0 (by decide))) rfl rfl rfl ?_
      -- R3.2 14 := model.go:62 call
      refine WL.call (r_call ty_call93 rfl) rfl rfl rfl (withinM_ok (v := o.A) (n := 4) st) ?_
      rintro _ w ⟨he, st⟩
      have he : _ = Value.bool true := he.trans (by unfold wiP; rw [decide_eq_true ha])
      subst he
      -- R3.3 15 := model.go:62 unOp
      refine WL.v (by first | exact r_notT rfl | exact r_notF rfl | exact r_not rfl) rfl rfl rfl ?_
      refine WL.fin hK3841 (fun _ _ h => h) ?_
      refine WC.condF rfl rfl ?_
      refine WC.skipF hK3840 (fun _ _ h => h) ?_
      refine WC.seq fun K3842 hK3842 => ?_
      refine WC.seq fun K3843 hK3843 => ?_
      -- region 5
      refine WC.region ?_
      -- R5.0 16 := model.go:65 move
      refine WL.v (by first | exact r_move (v := .pointer _) rfl | exact r_move rfl) rfl rfl rfl ?_
      -- R5.1 17 := model.go:65 nilCheck
      refine WL.v (by exact r_nilCheck rfl) rfl rfl rfl ?_
      -- R5.2 18 := model.go:65 fieldAddr
      refine WL.v (by exact r_field ty_fld98_4 rfl) rfl rfl rfl ?_
      -- R5.3 19 := model.go:65 slice
      refine WL.v (by exact r_slAr ty_ar86 rfl) rfl rfl rfl ?_
      -- R5.4 20 := model.go:65 call
      refine WL.call (r_call ty_call94 rfl) rfl rfl rfl (containsB_ok (List.mem_cons_of_mem _ List.mem_cons_self) st) ?_
      rintro _ w ⟨he, st⟩
      rw [hl] at he
      subst he
      refine WL.fin hK3843 (fun _ _ h => h) ?_
      refine WC.condF rfl rfl ?_
      refine WC.skipF hK3842 (fun _ _ h => h) ?_
      refine WC.seq fun K3844 hK3844 => ?_
      -- region 7
      refine WC.region ?_
      -- R7.0 21 := model.go:68 move
      refine WL.v (by first | exact r_move (v := .pointer _) rfl | exact r_move rfl) rfl rfl rfl ?_
      -- R7.1 22 := model.go:68 fieldAddr
      refine WL.v (by exact r_field ty_fld28_1 rfl) rfl rfl rfl ?_
      -- R7.2 23 := model.go:68 load
      refine WL.v (by exact r_load1 (v := .int .i64 (q : Nat)) ty_one2 rfl (by rw [← hq]; exact st.c0 (by decide))) rfl rfl rfl ?_
      -- R7.3 24 := model.go:68 nilCheck
      refine WL.v (by exact r_nilCheck rfl) rfl rfl rfl ?_
      -- R7.4 25 := model.go:68 fieldAddr
      refine WL.v (by exact r_field ty_fld98_0 rfl) rfl rfl rfl ?_
      -- R7.5 None := model.go:68 store
      refine WL.store (v := .int .i64 (q : Nat)) st.front1 ty_one40 rfl rfl rfl (by decide) rfl rfl ?_
      intro w st
      have st : S0 w0 (moI bm (mrOf { s with mode := q }) pv tv mb :: (b3, Row 28 5 (nth (opL o))) :: (XP ++ (XO ++ (mpI mb (odF s) ++ l)))) w := stE mw_mode st
      refine WL.fin hK3844 (fun _ _ h => h) ?_
      refine WC.seq fun K3845 hK3845 => ?_
      -- region 8
      refine WC.region ?_
      -- R8.0 4 := model.go:69 assign
      refine WL.v (by first | exact r_assign (v := .int _ _) rfl | exact r_assign rfl) rfl rfl rfl ?_
      -- R8.1 5 := model.go:69 assign
      refine WL.v (by first | exact r_assign (v := .int _ _) rfl | exact r_assign rfl) rfl rfl rfl ?_
      refine WL.fin hK3845 (fun _ _ h => h) ?_
      refine WC.ret2 Tryz.results69 (fun _ _ h => h) rfl ?_
      exact ⟨_, rfl, by rw [eS]; rfl, P, by rw [eS]; exact hrel.same rfl (fun _ => ⟨rfl, rfl⟩), by rw [eS]; exact ⟨pv, XP, tv, XO, hp, ho, st.drop1⟩⟩
  by_cases hk1 : o.kind = 1
  · have eR : stepP s o = spawnP s := by unfold stepP; rw [hk1]; rfl
    have hli := liX_slot (s := s)
    cases hs : slotP s with
    | none =>
      rw [hs] at hli
      have eS : stepP s o = (s, 9, -1) := by rw [eR]; unfold spawnP; rw [hs]
      refine enter [.pointer (some ⟨bm, 0, none⟩), .agg (opL o).toArray] Tryz.func69 rfl Tryz.ntmps69 rfl ?_
      show WC _ _ _ 91 [] [(0, .pointer (some ⟨bm, 0, none⟩)), (1, .agg (opL o).toArray)] _
      refine WC.seq fun K3846 hK3846 => ?_
      -- region 0
      refine WC.region ?_
      -- R0.0 3 := model.go:59 box
      refine WL.box (m := 5) (vs := opL o) st rfl rfl rfl rfl rfl rfl ?_
      intro b3 w st
      have st : S0 w0 ((b3, Row 28 5 (nth (opL o))) :: moI bm (mrOf s) pv tv mb :: (XP ++ (XO ++ (mpI mb (odF s) ++ l)))) w := st
      -- R0.1 4 := model.go:59 assign
      refine WL.v (by first | exact r_assign (v := .int _ _) rfl | exact r_assign rfl) rfl rfl rfl ?_
      -- R0.2 5 := model.go:59 assign
      refine WL.v (by first | exact r_assign (v := .int _ _) rfl | exact r_assign rfl) rfl rfl rfl ?_
      refine WL.fin hK3846 (fun _ _ h => h) ?_
      refine WC.seq fun K3847 hK3847 => ?_
      refine WC.seq fun K3848 hK3848 => ?_
      -- region 1
      refine WC.region ?_
      -- R1.0 8 := model.go:60 fieldAddr
      refine WL.v (by exact r_field ty_fld28_0 rfl) rfl rfl rfl ?_
      -- R1.1 9 := model.go:60 load
      refine WL.v (by exact r_load1 (v := .int .u8 (o.kind : Nat)) ty_one25 rfl (st.c0 (by decide))) rfl rfl rfl ?_
      refine WL.fin hK3848 (fun _ _ h => h) ?_
      refine WC.block ?_
      refine WC.seq fun K3849 hK3849 => ?_
      -- region 2
      refine WC.region ?_
      -- R2.0 11 := model.go:61 binOp
      refine WL.v (by exact r_eql rfl rfl (decide_eq_false (by omega))) rfl rfl rfl ?_
      -- R2.1 10 := model.go:61 assign
      refine WL.v (by first | exact r_assign (v := .bool _) rfl | exact r_assign rfl) rfl rfl rfl ?_
      refine WL.fin hK3849 (fun _ _ h => h) ?_
      refine WC.condF rfl rfl ?_
      refine WC.seq fun K3850 hK3850 => ?_
      -- region 9
      refine WC.region ?_
      -- R9.0 27 := model.go:70 binOp
      refine WL.v (by exact r_eql rfl rfl (decide_eq_true (by omega))) rfl rfl rfl ?_
      -- R9.1 26 := model.go:70 assign
      refine WL.v (by first | exact r_assign (v := .bool _) rfl | exact r_assign rfl) rfl rfl rfl ?_
      refine WL.fin hK3850 (fun _ _ h => h) ?_
      refine WC.condT rfl rfl ?_
      refine WC.seq fun K3851 hK3851 => ?_
      -- region 10
      refine WC.region ?_
      -- R10.0 28 := model.go:71 move
      refine WL.v (by first | exact r_move (v := .pointer _) rfl | exact r_move rfl) rfl rfl rfl ?_
      -- R10.1 29 := model.go:71 nilCheck
      refine WL.v (by exact r_nilCheck rfl) rfl rfl rfl ?_
      -- R10.2 30 := model.go:71 fieldAddr
      refine WL.v (by exact r_field ty_fld98_4 rfl) rfl rfl rfl ?_
      -- R10.3 31 := model.go:71 slice
      refine WL.v (by exact r_slAr ty_ar86 rfl) rfl rfl rfl ?_
      -- R10.4 32 := model.go:71 call
      refine WL.call (r_call ty_call95 rfl) rfl rfl rfl (indexB_ok (x := false) (m := mrOf s) (List.mem_cons_of_mem _ List.mem_cons_self) st) ?_
      rintro _ w ⟨he, st⟩
      rw [hli] at he
      subst he
      -- R10.5 6 := model.go:71 assign
      refine WL.v (by first | exact r_assign (v := .int _ _) rfl | exact r_assign rfl) rfl rfl rfl ?_
      refine WL.fin hK3851 (fun _ _ h => h) ?_
      refine WC.seq fun K3852 hK3852 => ?_
      refine WC.seq fun K3853 hK3853 => ?_
      -- region 11
      refine WC.region ?_
      -- R11.0 33 := model.go:72 move
      refine WL.v (by first | exact r_move (v := .int _ _) rfl | exact r_move rfl) rfl rfl rfl ?_
      -- R11.1 34 := model.go:72 binOp
      refine WL.v (by first | exact r_lss rfl rfl (decide_eq_true (by omega)) | exact r_lss rfl rfl (decide_eq_false (by omega)) | exact r_lss rfl rfl rfl) rfl rfl rfl ?_
      refine WL.fin hK3853 (fun _ _ h => h) ?_
      refine WC.condT rfl rfl ?_
      refine WC.seq fun K3854 hK3854 => ?_
      -- region 12
      refine WC.region ?_
      -- R12.0 4 := model.go:73 assign
      refine WL.v (by first | exact r_assign (v := .int _ _) rfl | exact r_assign rfl) rfl rfl rfl ?_
      -- R12.1 5 := model.go:73 assign
      refine WL.v (by first | exact r_assign (v := .int _ _) rfl | exact r_assign rfl) rfl rfl rfl ?_
      refine WL.fin hK3854 (fun _ _ h => h) ?_
      refine WC.ret2 Tryz.results69 (fun _ _ h => h) rfl ?_
      exact ⟨_, rfl, by rw [eS]; rfl, P, by rw [eS]; exact hrel, by rw [eS]; exact ⟨pv, XP, tv, XO, hp, ho, st.drop⟩⟩
    | some t =>
      rw [hs] at hli
      have hli : liX (mrOf s).live false = (t : Int) := hli
      have ht : t < 16 := List.mem_range.1 (List.mem_of_find?_eq_some hs)
      have hlf : (s.tk t).live = false := by simpa using List.find?_some hs
      have hn0 := hvn t hlf
      have eS : stepP s o = (bornS s t, 0, (t : Int)) := by rw [eR]; unfold spawnP; rw [hs]
      refine enter [.pointer (some ⟨bm, 0, none⟩), .agg (opL o).toArray] Tryz.func69 rfl Tryz.ntmps69 rfl ?_
      show WC _ _ _ 91 [] [(0, .pointer (some ⟨bm, 0, none⟩)), (1, .agg (opL o).toArray)] _
      refine WC.seq fun K3855 hK3855 => ?_
      -- region 0
      refine WC.region ?_
      -- R0.0 3 := model.go:59 box
      refine WL.box (m := 5) (vs := opL o) st rfl rfl rfl rfl rfl rfl ?_
      intro b3 w st
      have st : S0 w0 ((b3, Row 28 5 (nth (opL o))) :: moI bm (mrOf s) pv tv mb :: (XP ++ (XO ++ (mpI mb (odF s) ++ l)))) w := st
      -- R0.1 4 := model.go:59 assign
      refine WL.v (by first | exact r_assign (v := .int _ _) rfl | exact r_assign rfl) rfl rfl rfl ?_
      -- R0.2 5 := model.go:59 assign
      refine WL.v (by first | exact r_assign (v := .int _ _) rfl | exact r_assign rfl) rfl rfl rfl ?_
      refine WL.fin hK3855 (fun _ _ h => h) ?_
      refine WC.seq fun K3856 hK3856 => ?_
      refine WC.seq fun K3857 hK3857 => ?_
      -- region 1
      refine WC.region ?_
      -- R1.0 8 := model.go:60 fieldAddr
      refine WL.v (by exact r_field ty_fld28_0 rfl) rfl rfl rfl ?_
      -- R1.1 9 := model.go:60 load
      refine WL.v (by exact r_load1 (v := .int .u8 (o.kind : Nat)) ty_one25 rfl (st.c0 (by decide))) rfl rfl rfl ?_
      refine WL.fin hK3857 (fun _ _ h => h) ?_
      refine WC.block ?_
      refine WC.seq fun K3858 hK3858 => ?_
      -- region 2
      refine WC.region ?_
      -- R2.0 11 := model.go:61 binOp
      refine WL.v (by exact r_eql rfl rfl (decide_eq_false (by omega))) rfl rfl rfl ?_
      -- R2.1 10 := model.go:61 assign
      refine WL.v (by first | exact r_assign (v := .bool _) rfl | exact r_assign rfl) rfl rfl rfl ?_
      refine WL.fin hK3858 (fun _ _ h => h) ?_
      refine WC.condF rfl rfl ?_
      refine WC.seq fun K3859 hK3859 => ?_
      -- region 9
      refine WC.region ?_
      -- R9.0 27 := model.go:70 binOp
      refine WL.v (by exact r_eql rfl rfl (decide_eq_true (by omega))) rfl rfl rfl ?_
      -- R9.1 26 := model.go:70 assign
      refine WL.v (by first | exact r_assign (v := .bool _) rfl | exact r_assign rfl) rfl rfl rfl ?_
      refine WL.fin hK3859 (fun _ _ h => h) ?_
      refine WC.condT rfl rfl ?_
      refine WC.seq fun K3860 hK3860 => ?_
      -- region 10
      refine WC.region ?_
      -- R10.0 28 := model.go:71 move
      refine WL.v (by first | exact r_move (v := .pointer _) rfl | exact r_move rfl) rfl rfl rfl ?_
      -- R10.1 29 := model.go:71 nilCheck
      refine WL.v (by exact r_nilCheck rfl) rfl rfl rfl ?_
      -- R10.2 30 := model.go:71 fieldAddr
      refine WL.v (by exact r_field ty_fld98_4 rfl) rfl rfl rfl ?_
      -- R10.3 31 := model.go:71 slice
      refine WL.v (by exact r_slAr ty_ar86 rfl) rfl rfl rfl ?_
      -- R10.4 32 := model.go:71 call
      refine WL.call (r_call ty_call95 rfl) rfl rfl rfl (indexB_ok (x := false) (m := mrOf s) (List.mem_cons_of_mem _ List.mem_cons_self) st) ?_
      rintro _ w ⟨he, st⟩
      rw [hli] at he
      subst he
      -- R10.5 6 := model.go:71 assign
      refine WL.v (by first | exact r_assign (v := .int _ _) rfl | exact r_assign rfl) rfl rfl rfl ?_
      refine WL.fin hK3860 (fun _ _ h => h) ?_
      refine WC.seq fun K3861 hK3861 => ?_
      refine WC.seq fun K3862 hK3862 => ?_
      -- region 11
      refine WC.region ?_
      -- R11.0 33 := model.go:72 move
      refine WL.v (by first | exact r_move (v := .int _ _) rfl | exact r_move rfl) rfl rfl rfl ?_
      -- R11.1 34 := model.go:72 binOp
      refine WL.v (by exact r_lss rfl rfl (decide_eq_false (by omega))) rfl rfl rfl ?_
      refine WL.fin hK3862 (fun _ _ h => h) ?_
      refine WC.condF rfl rfl ?_
      refine WC.skipF hK3861 (fun _ _ h => h) ?_
      refine WC.seq fun K3863 hK3863 => ?_
      -- region 13
      refine WC.region ?_
      -- R13.0 35 := model.go:75 move
      refine WL.v (by first | exact r_move (v := .pointer _) rfl | exact r_move rfl) rfl rfl rfl ?_
      -- R13.1 36 := model.go:75 nilCheck
      refine WL.v (by exact r_nilCheck rfl) rfl rfl rfl ?_
      -- R13.2 37 := model.go:75 fieldAddr
      refine WL.v (by exact r_field ty_fld98_2 rfl) rfl rfl rfl ?_
      -- R13.3 38 := model.go:75 load
      refine WL.v (by exact r_load1 (v := .int .u64 (s.births : Nat)) ty_one26 rfl (c_m (m := mrOf s) (List.mem_cons_of_mem _ List.mem_cons_self) (by decide) rfl st)) rfl rfl rfl ?_
      -- R13.4 39 := model.go:75 binOp
      refine WL.v (by exact r_add (r := ((s.births + 1 : Nat) : Int)) rfl rfl ((wu64 (by omega) (by omega)).trans (by omega))) rfl rfl rfl ?_
      -- R13.5 40 := model.go:75 nilCheck
      refine WL.v (by exact r_nilCheck rfl) rfl rfl rfl ?_
      -- R13.6 41 := model.go:75 fieldAddr
      refine WL.v (by exact r_field ty_fld98_2 rfl) rfl rfl rfl ?_
      -- R13.7 None := model.go:75 store
      refine WL.store (v := .int .u64 ((s.births + 1 : Nat) : Int)) st.front1 ty_one26 rfl rfl rfl (by decide) rfl rfl ?_
      intro w st
      have st : S0 w0 (moI bm { mrOf s with births := s.births + 1 } pv tv mb :: (b3, Row 28 5 (nth (opL o))) :: (XP ++ (XO ++ (mpI mb (odF s) ++ l)))) w := stE mw_births st
      refine WL.fin hK3863 (fun _ _ h => h) ?_
      refine WC.seq fun K3864 hK3864 => ?_
      -- region 14 (draws)
      refine WC.heldS2 [11, 14, 15] [4, 5, 6, 7] [0, 1, 2, 3, 8, 9, 10, 12, 13] [11, 14, 15] st (st) ty_mixed (by kernel_rfl) fun w st Kq Kq2 hKq hKq2 => ?_
      -- R14.4 46 := model.go:76 move
      refine HL.v (fun w st => by first | exact r_move (v := .pointer _) rfl | exact r_move rfl) rfl rfl rfl ?_
      -- R14.5 47 := model.go:76 nilCheck
      refine HL.v (fun w st => by exact r_nilCheck rfl) rfl rfl rfl ?_
      -- R14.6 48 := model.go:76 fieldAddr
      refine HL.v (fun w st => by exact r_field ty_fld98_2 rfl) rfl rfl rfl ?_
      -- R14.7 49 := model.go:76 load
      refine HL.v (fun w st => by exact r_load1 (v := .int .u64 ((s.births + 1 : Nat) : Int)) ty_one26 rfl (c_m (m := { mrOf s with births := s.births + 1 }) List.mem_cons_self (by decide) rfl st)) rfl rfl rfl ?_
      refine HL.pure hKq ?_
      -- R14.0 42 := model.go:76 move
      refine HL.v (fun w _ => by first | exact r_move (v := .pointer _) rfl | exact r_move rfl) rfl rfl rfl ?_
      -- R14.1 43 := model.go:76 move
      refine HL.v (fun w _ => by first | exact r_move (v := .int _ _) rfl | exact r_move rfl) rfl rfl rfl ?_
      -- R14.2 44 := model.go:76 move
      refine HL.v (fun w _ => by first | exact r_move (v := .pointer _) rfl | exact r_move rfl) rfl rfl rfl ?_
      -- R14.3 45 := model.go:76 move
      refine HL.v (fun w _ => by first | exact r_move (v := .int _ _) rfl | exact r_move rfl) rfl rfl rfl ?_
      -- R14.8 50 := model.go:76 nilCheck
      refine HL.v (fun w _ => by exact r_nilCheck rfl) rfl rfl rfl ?_
      -- R14.9 51 := model.go:76 fieldAddr
      refine HL.v (fun w _ => by exact r_field ty_fld98_4 rfl) rfl rfl rfl ?_
      -- R14.10 52 := model.go:76 indexAddr
      refine HL.v (fun w _ => by exact r_indexA (j := t) ty_ar86 rfl rfl rfl ht) rfl rfl rfl ?_
      -- R14.12 53 := model.go:76 nilCheck
      refine HL.v (fun w _ => by exact r_nilCheck rfl) rfl rfl rfl ?_
      -- R14.13 54 := model.go:76 fieldAddr
      refine HL.v (fun w _ => by exact r_field ty_fld98_5 rfl) rfl rfl rfl ?_
      refine HL.fin hKq2 ?_
      refine TL.at ?_
      -- R14.11 None := model.go:76 store
      refine WL.store (v := .bool true) st ty_one4 rfl rfl rfl (by omega) rfl rfl ?_
      intro w st
      have st := stE (mw_live (x := true) ht) st
      refine TL.nxt' rfl ?_
      refine TL.at ?_
      -- R14.14 55 := model.go:76 indexAddr
      refine WL.v (by exact r_indexA (j := t) ty_ar81 rfl rfl rfl ht) rfl rfl rfl ?_
      refine TL.nxt' rfl ?_
      refine TL.at ?_
      -- R14.15 None := model.go:76 store
      refine WL.store (v := .int .u64 ((s.births + 1 : Nat) : Int)) st ty_one26 rfl rfl rfl (by omega) rfl rfl ?_
      intro w st
      have st := stE (mw_birth (x := s.births + 1) ht) st
      refine TL.nxt' rfl ?_
      refine TL.wl ?_
      refine WL.fin hK3864 (fun _ _ h => h) ?_
      refine WC.seq fun K3865 hK3865 => ?_
      -- region 15
      refine WC.region ?_
      -- R15.0 56 := model.go:77 move
      refine WL.v (by first | exact r_move (v := .int _ _) rfl | exact r_move rfl) rfl rfl rfl ?_
      -- R15.1 4 := model.go:77 assign
      refine WL.v (by first | exact r_assign (v := .int _ _) rfl | exact r_assign rfl) rfl rfl rfl ?_
      -- R15.2 5 := model.go:77 assign
      refine WL.v (by first | exact r_assign (v := .int _ _) rfl | exact r_assign rfl) rfl rfl rfl ?_
      refine WL.fin hK3865 (fun _ _ h => h) ?_
      refine WC.ret2 Tryz.results69 (fun _ _ h => h) rfl ?_
      refine ⟨_, rfl, by rw [eS]; rfl, P, ?_, ?_⟩
      · rw [eS]
        refine ⟨hrel.q, hrel.l, fun p hp => ?_, hrel.u⟩
        have hne : p.t ≠ t := fun e => by have := hi_wl hI (hrel.mem_wait hI hp); rw [e, hlf] at this; cases this
        show p.d = (updN s.tk t _ p.t).deadline ∧ p.n = (updN s.tk t _ p.t).timer
        rw [updN_ne hne]; exact hrel.d p hp
      · rw [eS]
        unfold MK
        rw [mr_born hn0, od_born hn0]
        exact ⟨pv, XP, tv, XO, hp, ho, st.drop1⟩
  by_cases hk10 : o.kind = 10
  · have eS : stepP s o = (tickP s, 0, -1) := by unfold stepP; rw [hk10]; rfl
    refine enter [.pointer (some ⟨bm, 0, none⟩), .agg (opL o).toArray] Tryz.func69 rfl Tryz.ntmps69 rfl ?_
    show WC _ _ _ 91 [] [(0, .pointer (some ⟨bm, 0, none⟩)), (1, .agg (opL o).toArray)] _
    refine WC.seq fun K3866 hK3866 => ?_
    -- region 0
    refine WC.region ?_
    -- R0.0 3 := model.go:59 box
    refine WL.box (m := 5) (vs := opL o) st rfl rfl rfl rfl rfl rfl ?_
    intro b3 w st
    have st : S0 w0 ((b3, Row 28 5 (nth (opL o))) :: moI bm (mrOf s) pv tv mb :: (XP ++ (XO ++ (mpI mb (odF s) ++ l)))) w := st
    -- R0.1 4 := model.go:59 assign
    refine WL.v (by first | exact r_assign (v := .int _ _) rfl | exact r_assign rfl) rfl rfl rfl ?_
    -- R0.2 5 := model.go:59 assign
    refine WL.v (by first | exact r_assign (v := .int _ _) rfl | exact r_assign rfl) rfl rfl rfl ?_
    refine WL.fin hK3866 (fun _ _ h => h) ?_
    refine WC.seq fun K3867 hK3867 => ?_
    refine WC.seq fun K3868 hK3868 => ?_
    -- region 1
    refine WC.region ?_
    -- R1.0 8 := model.go:60 fieldAddr
    refine WL.v (by exact r_field ty_fld28_0 rfl) rfl rfl rfl ?_
    -- R1.1 9 := model.go:60 load
    refine WL.v (by exact r_load1 (v := .int .u8 (o.kind : Nat)) ty_one25 rfl (st.c0 (by decide))) rfl rfl rfl ?_
    refine WL.fin hK3868 (fun _ _ h => h) ?_
    refine WC.block ?_
    refine WC.seq fun K3869 hK3869 => ?_
    -- region 2
    refine WC.region ?_
    -- R2.0 11 := model.go:61 binOp
    refine WL.v (by exact r_eql rfl rfl (decide_eq_false (by omega))) rfl rfl rfl ?_
    -- R2.1 10 := model.go:61 assign
    refine WL.v (by first | exact r_assign (v := .bool _) rfl | exact r_assign rfl) rfl rfl rfl ?_
    refine WL.fin hK3869 (fun _ _ h => h) ?_
    refine WC.condF rfl rfl ?_
    refine WC.seq fun K3870 hK3870 => ?_
    -- region 9
    refine WC.region ?_
    -- R9.0 27 := model.go:70 binOp
    refine WL.v (by exact r_eql rfl rfl (decide_eq_false (by omega))) rfl rfl rfl ?_
    -- R9.1 26 := model.go:70 assign
    refine WL.v (by first | exact r_assign (v := .bool _) rfl | exact r_assign rfl) rfl rfl rfl ?_
    refine WL.fin hK3870 (fun _ _ h => h) ?_
    refine WC.condF rfl rfl ?_
    refine WC.seq fun K3871 hK3871 => ?_
    -- region 16
    refine WC.region ?_
    -- R16.0 58 := model.go:78 binOp
    refine WL.v (by exact r_eql rfl rfl (decide_eq_true (by omega))) rfl rfl rfl ?_
    -- R16.1 57 := model.go:78 assign
    refine WL.v (by first | exact r_assign (v := .bool _) rfl | exact r_assign rfl) rfl rfl rfl ?_
    refine WL.fin hK3871 (fun _ _ h => h) ?_
    refine WC.condT rfl rfl ?_
    refine WC.seq fun K3872 hK3872 => ?_
    -- region 17
    refine WC.region ?_
    -- R17.0 59 := model.go:79 move
    refine WL.v (by first | exact r_move (v := .pointer _) rfl | exact r_move rfl) rfl rfl rfl ?_
    -- R17.1 60 := model.go:79 call
    refine WL.call (r_call ty_call96 rfl) rfl rfl rfl (tickM_ok hD hB (by omega) hI hct hti hdu hnow hrel ⟨pv, XP, tv, XO, hp, ho, st.drop⟩) ?_
    rintro _ w ⟨rfl, P', hrel', st⟩
    refine WL.fin hK3872 (fun _ _ h => h) ?_
    refine WC.seq fun K3873 hK3873 => ?_
    -- region 18
    refine WC.region ?_
    -- R18.0 4 := model.go:80 assign
    refine WL.v (by first | exact r_assign (v := .int _ _) rfl | exact r_assign rfl) rfl rfl rfl ?_
    -- R18.1 5 := model.go:80 assign
    refine WL.v (by first | exact r_assign (v := .int _ _) rfl | exact r_assign rfl) rfl rfl rfl ?_
    refine WL.fin hK3873 (fun _ _ h => h) ?_
    refine WC.ret2 Tryz.results69 (fun _ _ h => h) rfl ?_
    exact ⟨_, rfl, by rw [eS]; rfl, P', by rw [eS]; exact hrel', by rw [eS]; exact st⟩
  by_cases hk11 : o.kind = 11
  · have eS : stepP s o = detectP s := by unfold stepP; rw [hk11]; rfl
    refine enter [.pointer (some ⟨bm, 0, none⟩), .agg (opL o).toArray] Tryz.func69 rfl Tryz.ntmps69 rfl ?_
    show WC _ _ _ 91 [] [(0, .pointer (some ⟨bm, 0, none⟩)), (1, .agg (opL o).toArray)] _
    refine WC.seq fun K3874 hK3874 => ?_
    -- region 0
    refine WC.region ?_
    -- R0.0 3 := model.go:59 box
    refine WL.box (m := 5) (vs := opL o) st rfl rfl rfl rfl rfl rfl ?_
    intro b3 w st
    have st : S0 w0 ((b3, Row 28 5 (nth (opL o))) :: moI bm (mrOf s) pv tv mb :: (XP ++ (XO ++ (mpI mb (odF s) ++ l)))) w := st
    -- R0.1 4 := model.go:59 assign
    refine WL.v (by first | exact r_assign (v := .int _ _) rfl | exact r_assign rfl) rfl rfl rfl ?_
    -- R0.2 5 := model.go:59 assign
    refine WL.v (by first | exact r_assign (v := .int _ _) rfl | exact r_assign rfl) rfl rfl rfl ?_
    refine WL.fin hK3874 (fun _ _ h => h) ?_
    refine WC.seq fun K3875 hK3875 => ?_
    refine WC.seq fun K3876 hK3876 => ?_
    -- region 1
    refine WC.region ?_
    -- R1.0 8 := model.go:60 fieldAddr
    refine WL.v (by exact r_field ty_fld28_0 rfl) rfl rfl rfl ?_
    -- R1.1 9 := model.go:60 load
    refine WL.v (by exact r_load1 (v := .int .u8 (o.kind : Nat)) ty_one25 rfl (st.c0 (by decide))) rfl rfl rfl ?_
    refine WL.fin hK3876 (fun _ _ h => h) ?_
    refine WC.block ?_
    refine WC.seq fun K3877 hK3877 => ?_
    -- region 2
    refine WC.region ?_
    -- R2.0 11 := model.go:61 binOp
    refine WL.v (by exact r_eql rfl rfl (decide_eq_false (by omega))) rfl rfl rfl ?_
    -- R2.1 10 := model.go:61 assign
    refine WL.v (by first | exact r_assign (v := .bool _) rfl | exact r_assign rfl) rfl rfl rfl ?_
    refine WL.fin hK3877 (fun _ _ h => h) ?_
    refine WC.condF rfl rfl ?_
    refine WC.seq fun K3878 hK3878 => ?_
    -- region 9
    refine WC.region ?_
    -- R9.0 27 := model.go:70 binOp
    refine WL.v (by exact r_eql rfl rfl (decide_eq_false (by omega))) rfl rfl rfl ?_
    -- R9.1 26 := model.go:70 assign
    refine WL.v (by first | exact r_assign (v := .bool _) rfl | exact r_assign rfl) rfl rfl rfl ?_
    refine WL.fin hK3878 (fun _ _ h => h) ?_
    refine WC.condF rfl rfl ?_
    refine WC.seq fun K3879 hK3879 => ?_
    -- region 16
    refine WC.region ?_
    -- R16.0 58 := model.go:78 binOp
    refine WL.v (by exact r_eql rfl rfl (decide_eq_false (by omega))) rfl rfl rfl ?_
    -- R16.1 57 := model.go:78 assign
    refine WL.v (by first | exact r_assign (v := .bool _) rfl | exact r_assign rfl) rfl rfl rfl ?_
    refine WL.fin hK3879 (fun _ _ h => h) ?_
    refine WC.condF rfl rfl ?_
    refine WC.seq fun K3880 hK3880 => ?_
    -- region 19
    refine WC.region ?_
    -- R19.0 62 := model.go:81 binOp
    refine WL.v (by exact r_eql rfl rfl (decide_eq_true (by omega))) rfl rfl rfl ?_
    -- R19.1 61 := model.go:81 assign
    refine WL.v (by first | exact r_assign (v := .bool _) rfl | exact r_assign rfl) rfl rfl rfl ?_
    refine WL.fin hK3880 (fun _ _ h => h) ?_
    refine WC.condT rfl rfl ?_
    refine WC.seq fun K3881 hK3881 => ?_
    -- region 20
    refine WC.region ?_
    -- R20.0 63 := model.go:82 move
    refine WL.v (by first | exact r_move (v := .pointer _) rfl | exact r_move rfl) rfl rfl rfl ?_
    -- R20.1 64 := model.go:82 call
    refine WL.call (r_call ty_call97 rfl) rfl rfl rfl (detectM_ok hD hB (by omega) hI hct hrel ⟨pv, XP, tv, XO, hp, ho, st.drop⟩) ?_
    rintro _ w ⟨rfl, P', hrel', st⟩
    -- R20.2 65 := model.go:82 extract
    refine WL.v (by first | exact r_extract (v := .int _ _) rfl rfl | exact r_extract rfl rfl) rfl rfl rfl ?_
    -- R20.3 66 := model.go:82 extract
    refine WL.v (by first | exact r_extract (v := .int _ _) rfl rfl | exact r_extract rfl rfl) rfl rfl rfl ?_
    -- R20.4 4 := model.go:82 assign
    refine WL.v (by first | exact r_assign (v := .int _ _) rfl | exact r_assign rfl) rfl rfl rfl ?_
    -- R20.5 5 := model.go:82 assign
    refine WL.v (by first | exact r_assign (v := .int _ _) rfl | exact r_assign rfl) rfl rfl rfl ?_
    refine WL.fin hK3881 (fun _ _ h => h) ?_
    refine WC.ret2 Tryz.results69 (fun _ _ h => h) rfl ?_
    exact ⟨_, rfl, by rw [eS]; rfl, P', by rw [eS]; exact hrel', by rw [eS]; exact st⟩
  by_cases hk12 : 12 ≤ o.kind
  · have eS : stepP s o = (s, 6, -1) := by
      unfold stepP
      split <;> first | omega | rfl
    refine enter [.pointer (some ⟨bm, 0, none⟩), .agg (opL o).toArray] Tryz.func69 rfl Tryz.ntmps69 rfl ?_
    show WC _ _ _ 91 [] [(0, .pointer (some ⟨bm, 0, none⟩)), (1, .agg (opL o).toArray)] _
    refine WC.seq fun K3882 hK3882 => ?_
    -- region 0
    refine WC.region ?_
    -- R0.0 3 := model.go:59 box
    refine WL.box (m := 5) (vs := opL o) st rfl rfl rfl rfl rfl rfl ?_
    intro b3 w st
    have st : S0 w0 ((b3, Row 28 5 (nth (opL o))) :: moI bm (mrOf s) pv tv mb :: (XP ++ (XO ++ (mpI mb (odF s) ++ l)))) w := st
    -- R0.1 4 := model.go:59 assign
    refine WL.v (by first | exact r_assign (v := .int _ _) rfl | exact r_assign rfl) rfl rfl rfl ?_
    -- R0.2 5 := model.go:59 assign
    refine WL.v (by first | exact r_assign (v := .int _ _) rfl | exact r_assign rfl) rfl rfl rfl ?_
    refine WL.fin hK3882 (fun _ _ h => h) ?_
    refine WC.seq fun K3883 hK3883 => ?_
    refine WC.seq fun K3884 hK3884 => ?_
    -- region 1
    refine WC.region ?_
    -- R1.0 8 := model.go:60 fieldAddr
    refine WL.v (by exact r_field ty_fld28_0 rfl) rfl rfl rfl ?_
    -- R1.1 9 := model.go:60 load
    refine WL.v (by exact r_load1 (v := .int .u8 (o.kind : Nat)) ty_one25 rfl (st.c0 (by decide))) rfl rfl rfl ?_
    refine WL.fin hK3884 (fun _ _ h => h) ?_
    refine WC.block ?_
    refine WC.seq fun K3885 hK3885 => ?_
    -- region 2
    refine WC.region ?_
    -- R2.0 11 := model.go:61 binOp
    refine WL.v (by exact r_eql rfl rfl (decide_eq_false (by omega))) rfl rfl rfl ?_
    -- R2.1 10 := model.go:61 assign
    refine WL.v (by first | exact r_assign (v := .bool _) rfl | exact r_assign rfl) rfl rfl rfl ?_
    refine WL.fin hK3885 (fun _ _ h => h) ?_
    refine WC.condF rfl rfl ?_
    refine WC.seq fun K3886 hK3886 => ?_
    -- region 9
    refine WC.region ?_
    -- R9.0 27 := model.go:70 binOp
    refine WL.v (by exact r_eql rfl rfl (decide_eq_false (by omega))) rfl rfl rfl ?_
    -- R9.1 26 := model.go:70 assign
    refine WL.v (by first | exact r_assign (v := .bool _) rfl | exact r_assign rfl) rfl rfl rfl ?_
    refine WL.fin hK3886 (fun _ _ h => h) ?_
    refine WC.condF rfl rfl ?_
    refine WC.seq fun K3887 hK3887 => ?_
    -- region 16
    refine WC.region ?_
    -- R16.0 58 := model.go:78 binOp
    refine WL.v (by exact r_eql rfl rfl (decide_eq_false (by omega))) rfl rfl rfl ?_
    -- R16.1 57 := model.go:78 assign
    refine WL.v (by first | exact r_assign (v := .bool _) rfl | exact r_assign rfl) rfl rfl rfl ?_
    refine WL.fin hK3887 (fun _ _ h => h) ?_
    refine WC.condF rfl rfl ?_
    refine WC.seq fun K3888 hK3888 => ?_
    -- region 19
    refine WC.region ?_
    -- R19.0 62 := model.go:81 binOp
    refine WL.v (by exact r_eql rfl rfl (decide_eq_false (by omega))) rfl rfl rfl ?_
    -- R19.1 61 := model.go:81 assign
    refine WL.v (by first | exact r_assign (v := .bool _) rfl | exact r_assign rfl) rfl rfl rfl ?_
    refine WL.fin hK3888 (fun _ _ h => h) ?_
    refine WC.condF rfl rfl ?_
    refine WC.skipF hK3883 (fun _ _ h => h) ?_
    refine WC.seq fun K3889 hK3889 => ?_
    refine WC.seq fun K3890 hK3890 => ?_
    -- region 21
    refine WC.region ?_
    -- R21.0 67 := model.go:84 fieldAddr
    refine WL.v (by exact r_field ty_fld28_0 rfl) rfl rfl rfl ?_
    -- R21.1 68 := model.go:84 load
    refine WL.v (by exact r_load1 (v := .int .u8 (o.kind : Nat)) ty_one25 rfl (st.c0 (by decide))) rfl rfl rfl ?_
    -- R21.2 69 := model.go:84 binOp
    refine WL.v (by exact r_geq rfl rfl (decide_eq_true (by omega))) rfl rfl rfl ?_
    refine WL.fin hK3890 (fun _ _ h => h) ?_
    refine WC.condT rfl rfl ?_
    refine WC.seq fun K3891 hK3891 => ?_
    -- region 22
    refine WC.region ?_
    -- R22.0 4 := model.go:85 assign
    refine WL.v (by first | exact r_assign (v := .int _ _) rfl | exact r_assign rfl) rfl rfl rfl ?_
    -- R22.1 5 := model.go:85 assign
    refine WL.v (by first | exact r_assign (v := .int _ _) rfl | exact r_assign rfl) rfl rfl rfl ?_
    refine WL.fin hK3891 (fun _ _ h => h) ?_
    refine WC.ret2 Tryz.results69 (fun _ _ h => h) rfl ?_
    exact ⟨_, rfl, by rw [eS]; rfl, P, by rw [eS]; exact hrel, by rw [eS]; exact ⟨pv, XP, tv, XO, hp, ho, st.drop⟩⟩
  have hk29 : 2 ≤ o.kind ∧ o.kind ≤ 9 := by omega
  by_cases ha : 0 ≤ o.A ∧ o.A < 16
  rotate_left
  · have eS : stepP s o = (s, 10, -1) := step_refuse hk29.1 hk29.2 (by rw [show nameP o.A 16 = -1 from if_pos (by omega)]; rfl) (by decide)
    refine enter [.pointer (some ⟨bm, 0, none⟩), .agg (opL o).toArray] Tryz.func69 rfl Tryz.ntmps69 rfl ?_
    show WC _ _ _ 91 [] [(0, .pointer (some ⟨bm, 0, none⟩)), (1, .agg (opL o).toArray)] _
    refine WC.seq fun K3892 hK3892 => ?_
    -- region 0
    refine WC.region ?_
    -- R0.0 3 := model.go:59 box
    refine WL.box (m := 5) (vs := opL o) st rfl rfl rfl rfl rfl rfl ?_
    intro b3 w st
    have st : S0 w0 ((b3, Row 28 5 (nth (opL o))) :: moI bm (mrOf s) pv tv mb :: (XP ++ (XO ++ (mpI mb (odF s) ++ l)))) w := st
    -- R0.1 4 := model.go:59 assign
    refine WL.v (by first | exact r_assign (v := .int _ _) rfl | exact r_assign rfl) rfl rfl rfl ?_
    -- R0.2 5 := model.go:59 assign
    refine WL.v (by first | exact r_assign (v := .int _ _) rfl | exact r_assign rfl) rfl rfl rfl ?_
    refine WL.fin hK3892 (fun _ _ h => h) ?_
    refine WC.seq fun K3893 hK3893 => ?_
    refine WC.seq fun K3894 hK3894 => ?_
    -- region 1
    refine WC.region ?_
    -- R1.0 8 := model.go:60 fieldAddr
    refine WL.v (by exact r_field ty_fld28_0 rfl) rfl rfl rfl ?_
    -- R1.1 9 := model.go:60 load
    refine WL.v (by exact r_load1 (v := .int .u8 (o.kind : Nat)) ty_one25 rfl (st.c0 (by decide))) rfl rfl rfl ?_
    refine WL.fin hK3894 (fun _ _ h => h) ?_
    refine WC.block ?_
    refine WC.seq fun K3895 hK3895 => ?_
    -- region 2
    refine WC.region ?_
    -- R2.0 11 := model.go:61 binOp
    refine WL.v (by exact r_eql rfl rfl (decide_eq_false (by omega))) rfl rfl rfl ?_
    -- R2.1 10 := model.go:61 assign
    refine WL.v (by first | exact r_assign (v := .bool _) rfl | exact r_assign rfl) rfl rfl rfl ?_
    refine WL.fin hK3895 (fun _ _ h => h) ?_
    refine WC.condF rfl rfl ?_
    refine WC.seq fun K3896 hK3896 => ?_
    -- region 9
    refine WC.region ?_
    -- R9.0 27 := model.go:70 binOp
    refine WL.v (by exact r_eql rfl rfl (decide_eq_false (by omega))) rfl rfl rfl ?_
    -- R9.1 26 := model.go:70 assign
    refine WL.v (by first | exact r_assign (v := .bool _) rfl | exact r_assign rfl) rfl rfl rfl ?_
    refine WL.fin hK3896 (fun _ _ h => h) ?_
    refine WC.condF rfl rfl ?_
    refine WC.seq fun K3897 hK3897 => ?_
    -- region 16
    refine WC.region ?_
    -- R16.0 58 := model.go:78 binOp
    refine WL.v (by exact r_eql rfl rfl (decide_eq_false (by omega))) rfl rfl rfl ?_
    -- R16.1 57 := model.go:78 assign
    refine WL.v (by first | exact r_assign (v := .bool _) rfl | exact r_assign rfl) rfl rfl rfl ?_
    refine WL.fin hK3897 (fun _ _ h => h) ?_
    refine WC.condF rfl rfl ?_
    refine WC.seq fun K3898 hK3898 => ?_
    -- region 19
    refine WC.region ?_
    -- R19.0 62 := model.go:81 binOp
    refine WL.v (by exact r_eql rfl rfl (decide_eq_false (by omega))) rfl rfl rfl ?_
    -- R19.1 61 := model.go:81 assign
    refine WL.v (by first | exact r_assign (v := .bool _) rfl | exact r_assign rfl) rfl rfl rfl ?_
    refine WL.fin hK3898 (fun _ _ h => h) ?_
    refine WC.condF rfl rfl ?_
    refine WC.skipF hK3893 (fun _ _ h => h) ?_
    refine WC.seq fun K3899 hK3899 => ?_
    refine WC.seq fun K3900 hK3900 => ?_
    -- region 21
    refine WC.region ?_
    -- R21.0 67 := model.go:84 fieldAddr
    refine WL.v (by exact r_field ty_fld28_0 rfl) rfl rfl rfl ?_
    -- R21.1 68 := model.go:84 load
    refine WL.v (by exact r_load1 (v := .int .u8 (o.kind : Nat)) ty_one25 rfl (st.c0 (by decide))) rfl rfl rfl ?_
    -- R21.2 69 := model.go:84 binOp
    refine WL.v (by exact r_geq rfl rfl (decide_eq_false (by omega))) rfl rfl rfl ?_
    refine WL.fin hK3900 (fun _ _ h => h) ?_
    refine WC.condF rfl rfl ?_
    refine WC.skipF hK3899 (fun _ _ h => h) ?_
    refine WC.seq fun K3901 hK3901 => ?_
    refine WC.seq fun K3902 hK3902 => ?_
    -- region 23
    refine WC.region ?_
    -- R23.0 70 := model.go:87 fieldAddr
    refine WL.v (by exact r_field ty_fld28_1 rfl) rfl rfl rfl ?_
    -- R23.1 71 := model.go:87 load
    refine WL.v (by exact r_load1 (v := .int .i64 o.A) ty_one2 rfl (st.c0 (by decide))) rfl rfl rfl ?_
    -- R23.2 72 := model.go:87 call
    refine WL.call (r_call ty_call93 rfl) rfl rfl rfl (withinM_ok (v := o.A) (n := 16) st) ?_
    rintro _ w ⟨he, st⟩
    have he : _ = Value.bool false := he.trans (by unfold wiP; rw [decide_eq_false ha])
    subst he
    -- R23.3 73 := model.go:87 unOp
    refine WL.v (by first | exact r_notT rfl | exact r_notF rfl | exact r_not rfl) rfl rfl rfl ?_
    refine WL.fin hK3902 (fun _ _ h => h) ?_
    refine WC.condT rfl rfl ?_
    refine WC.seq fun K3903 hK3903 => ?_
    -- region 24
    refine WC.region ?_
    -- R24.0 4 := model.go:88 assign
    refine WL.v (by first | exact r_assign (v := .int _ _) rfl | exact r_assign rfl) rfl rfl rfl ?_
    -- R24.1 5 := model.go:88 assign
    refine WL.v (by first | exact r_assign (v := .int _ _) rfl | exact r_assign rfl) rfl rfl rfl ?_
    refine WL.fin hK3903 (fun _ _ h => h) ?_
    refine WC.ret2 Tryz.results69 (fun _ _ h => h) rfl ?_
    exact ⟨_, rfl, by rw [eS]; rfl, P, by rw [eS]; exact hrel, by rw [eS]; exact ⟨pv, XP, tv, XO, hp, ho, st.drop⟩⟩
  obtain ⟨t, hA⟩ : ∃ t : Nat, o.A = t := ⟨o.A.toNat, by omega⟩
  have ht : t < 16 := by omega
  have hnA : nameP o.A 16 = (t : Int) := by rw [hA]; exact nameP_eq (by omega)
  rcases hl : (s.tk t).live with _ | _
  · have eS : stepP s o = (s, 11, -1) := step_refuse hk29.1 hk29.2 (by rw [hnA]; unfold callerP; rw [if_neg (by omega), Int.toNat_natCast, if_pos hl]) (by decide)
    refine enter [.pointer (some ⟨bm, 0, none⟩), .agg (opL o).toArray] Tryz.func69 rfl Tryz.ntmps69 rfl ?_
    show WC _ _ _ 91 [] [(0, .pointer (some ⟨bm, 0, none⟩)), (1, .agg (opL o).toArray)] _
    refine WC.seq fun K3904 hK3904 => ?_
    -- region 0
    refine WC.region ?_
    -- R0.0 3 := model.go:59 box
    refine WL.box (m := 5) (vs := opL o) st rfl rfl rfl rfl rfl rfl ?_
    intro b3 w st
    have st : S0 w0 ((b3, Row 28 5 (nth (opL o))) :: moI bm (mrOf s) pv tv mb :: (XP ++ (XO ++ (mpI mb (odF s) ++ l)))) w := st
    -- R0.1 4 := model.go:59 assign
    refine WL.v (by first | exact r_assign (v := .int _ _) rfl | exact r_assign rfl) rfl rfl rfl ?_
    -- R0.2 5 := model.go:59 assign
    refine WL.v (by first | exact r_assign (v := .int _ _) rfl | exact r_assign rfl) rfl rfl rfl ?_
    refine WL.fin hK3904 (fun _ _ h => h) ?_
    refine WC.seq fun K3905 hK3905 => ?_
    refine WC.seq fun K3906 hK3906 => ?_
    -- region 1
    refine WC.region ?_
    -- R1.0 8 := model.go:60 fieldAddr
    refine WL.v (by exact r_field ty_fld28_0 rfl) rfl rfl rfl ?_
    -- R1.1 9 := model.go:60 load
    refine WL.v (by exact r_load1 (v := .int .u8 (o.kind : Nat)) ty_one25 rfl (st.c0 (by decide))) rfl rfl rfl ?_
    refine WL.fin hK3906 (fun _ _ h => h) ?_
    refine WC.block ?_
    refine WC.seq fun K3907 hK3907 => ?_
    -- region 2
    refine WC.region ?_
    -- R2.0 11 := model.go:61 binOp
    refine WL.v (by exact r_eql rfl rfl (decide_eq_false (by omega))) rfl rfl rfl ?_
    -- R2.1 10 := model.go:61 assign
    refine WL.v (by first | exact r_assign (v := .bool _) rfl | exact r_assign rfl) rfl rfl rfl ?_
    refine WL.fin hK3907 (fun _ _ h => h) ?_
    refine WC.condF rfl rfl ?_
    refine WC.seq fun K3908 hK3908 => ?_
    -- region 9
    refine WC.region ?_
    -- R9.0 27 := model.go:70 binOp
    refine WL.v (by exact r_eql rfl rfl (decide_eq_false (by omega))) rfl rfl rfl ?_
    -- R9.1 26 := model.go:70 assign
    refine WL.v (by first | exact r_assign (v := .bool _) rfl | exact r_assign rfl) rfl rfl rfl ?_
    refine WL.fin hK3908 (fun _ _ h => h) ?_
    refine WC.condF rfl rfl ?_
    refine WC.seq fun K3909 hK3909 => ?_
    -- region 16
    refine WC.region ?_
    -- R16.0 58 := model.go:78 binOp
    refine WL.v (by exact r_eql rfl rfl (decide_eq_false (by omega))) rfl rfl rfl ?_
    -- R16.1 57 := model.go:78 assign
    refine WL.v (by first | exact r_assign (v := .bool _) rfl | exact r_assign rfl) rfl rfl rfl ?_
    refine WL.fin hK3909 (fun _ _ h => h) ?_
    refine WC.condF rfl rfl ?_
    refine WC.seq fun K3910 hK3910 => ?_
    -- region 19
    refine WC.region ?_
    -- R19.0 62 := model.go:81 binOp
    refine WL.v (by exact r_eql rfl rfl (decide_eq_false (by omega))) rfl rfl rfl ?_
    -- R19.1 61 := model.go:81 assign
    refine WL.v (by first | exact r_assign (v := .bool _) rfl | exact r_assign rfl) rfl rfl rfl ?_
    refine WL.fin hK3910 (fun _ _ h => h) ?_
    refine WC.condF rfl rfl ?_
    refine WC.skipF hK3905 (fun _ _ h => h) ?_
    refine WC.seq fun K3911 hK3911 => ?_
    refine WC.seq fun K3912 hK3912 => ?_
    -- region 21
    refine WC.region ?_
    -- R21.0 67 := model.go:84 fieldAddr
    refine WL.v (by exact r_field ty_fld28_0 rfl) rfl rfl rfl ?_
    -- R21.1 68 := model.go:84 load
    refine WL.v (by exact r_load1 (v := .int .u8 (o.kind : Nat)) ty_one25 rfl (st.c0 (by decide))) rfl rfl rfl ?_
    -- R21.2 69 := model.go:84 binOp
    refine WL.v (by exact r_geq rfl rfl (decide_eq_false (by omega))) rfl rfl rfl ?_
    refine WL.fin hK3912 (fun _ _ h => h) ?_
    refine WC.condF rfl rfl ?_
    refine WC.skipF hK3911 (fun _ _ h => h) ?_
    refine WC.seq fun K3913 hK3913 => ?_
    refine WC.seq fun K3914 hK3914 => ?_
    -- region 23
    refine WC.region ?_
    -- R23.0 70 := model.go:87 fieldAddr
    refine WL.v (by exact r_field ty_fld28_1 rfl) rfl rfl rfl ?_
    -- R23.1 71 := model.go:87 load
    refine WL.v (by exact r_load1 (v := .int .i64 o.A) ty_one2 rfl (st.c0 (by decide))) rfl rfl rfl ?_
    -- R23.2 72 := model.go:87 call
    refine WL.call (r_call ty_call93 rfl) rfl rfl rfl (withinM_ok (v := o.A) (n := 16) st) ?_
    rintro _ w ⟨he, st⟩
    have he : _ = Value.bool true := he.trans (by unfold wiP; rw [decide_eq_true ha])
    subst he
    -- R23.3 73 := model.go:87 unOp
    refine WL.v (by first | exact r_notT rfl | exact r_notF rfl | exact r_not rfl) rfl rfl rfl ?_
    refine WL.fin hK3914 (fun _ _ h => h) ?_
    refine WC.condF rfl rfl ?_
    refine WC.skipF hK3913 (fun _ _ h => h) ?_
    refine WC.seq fun K3915 hK3915 => ?_
    -- region 25
    refine WC.region ?_
    -- R25.0 74 := model.go:90 fieldAddr
    refine WL.v (by exact r_field ty_fld28_1 rfl) rfl rfl rfl ?_
    -- R25.1 75 := model.go:90 load
    refine WL.v (by exact r_load1 (v := .int .i64 (t : Nat)) ty_one2 rfl (by rw [← hA]; exact st.c0 (by decide))) rfl rfl rfl ?_
    -- R25.2 7 := model.go:90 assign
    refine WL.v (by first | exact r_assign (v := .int _ _) rfl | exact r_assign rfl) rfl rfl rfl ?_
    refine WL.fin hK3915 (fun _ _ h => h) ?_
    refine WC.seq fun K3916 hK3916 => ?_
    refine WC.seq fun K3917 hK3917 => ?_
    -- region 26
    refine WC.region ?_
    -- R26.0 76 := model.go:91 move
    refine WL.v (by first | exact r_move (v := .pointer _) rfl | exact r_move rfl) rfl rfl rfl ?_
    -- R26.1 77 := model.go:91 move
    refine WL.v (by first | exact r_move (v := .int _ _) rfl | exact r_move rfl) rfl rfl rfl ?_
    -- R26.2 78 := model.go:91 nilCheck
    refine WL.v (by exact r_nilCheck rfl) rfl rfl rfl ?_
    -- R26.3 79 := model.go:91 fieldAddr
    refine WL.v (by exact r_field ty_fld98_4 rfl) rfl rfl rfl ?_
    -- R26.4 80 := model.go:91 indexAddr
    refine WL.v (by exact r_indexA (j := t) ty_ar86 rfl rfl rfl ht) rfl rfl rfl ?_
    -- R26.5 81 := model.go:91 load
    refine WL.v (by exact r_load1 (v := .bool false) ty_one4 rfl (by rw [← hl]; exact c_mlive (m := mrOf s) (List.mem_cons_of_mem _ List.mem_cons_self) ht (by omega) st)) rfl rfl rfl ?_
    -- R26.6 82 := model.go:91 unOp
    refine WL.v (by first | exact r_notT rfl | exact r_notF rfl | exact r_not rfl) rfl rfl rfl ?_
    refine WL.fin hK3917 (fun _ _ h => h) ?_
    refine WC.condT rfl rfl ?_
    refine WC.seq fun K3918 hK3918 => ?_
    -- region 27
    refine WC.region ?_
    -- R27.0 4 := model.go:92 assign
    refine WL.v (by first | exact r_assign (v := .int _ _) rfl | exact r_assign rfl) rfl rfl rfl ?_
    -- R27.1 5 := model.go:92 assign
    refine WL.v (by first | exact r_assign (v := .int _ _) rfl | exact r_assign rfl) rfl rfl rfl ?_
    refine WL.fin hK3918 (fun _ _ h => h) ?_
    refine WC.ret2 Tryz.results69 (fun _ _ h => h) rfl ?_
    exact ⟨_, rfl, by rw [eS]; rfl, P, by rw [eS]; exact hrel, by rw [eS]; exact ⟨pv, XP, tv, XO, hp, ho, st.drop⟩⟩
  rcases hw : (s.tk t).waiting with _ | _
  rotate_left
  · have eS : stepP s o = (s, 12, -1) := step_refuse hk29.1 hk29.2 (by rw [hnA]; unfold callerP; rw [if_neg (by omega), Int.toNat_natCast, if_neg (by rw [hl]; decide), if_pos hw]) (by decide)
    obtain ⟨i, p, hip, hpt⟩ := hrel.busy hI ht hw
    refine enter [.pointer (some ⟨bm, 0, none⟩), .agg (opL o).toArray] Tryz.func69 rfl Tryz.ntmps69 rfl ?_
    show WC _ _ _ 91 [] [(0, .pointer (some ⟨bm, 0, none⟩)), (1, .agg (opL o).toArray)] _
    refine WC.seq fun K3919 hK3919 => ?_
    -- region 0
    refine WC.region ?_
    -- R0.0 3 := model.go:59 box
    refine WL.box (m := 5) (vs := opL o) st rfl rfl rfl rfl rfl rfl ?_
    intro b3 w st
    have st : S0 w0 ((b3, Row 28 5 (nth (opL o))) :: moI bm (mrOf s) pv tv mb :: (XP ++ (XO ++ (mpI mb (odF s) ++ l)))) w := st
    -- R0.1 4 := model.go:59 assign
    refine WL.v (by first | exact r_assign (v := .int _ _) rfl | exact r_assign rfl) rfl rfl rfl ?_
    -- R0.2 5 := model.go:59 assign
    refine WL.v (by first | exact r_assign (v := .int _ _) rfl | exact r_assign rfl) rfl rfl rfl ?_
    refine WL.fin hK3919 (fun _ _ h => h) ?_
    refine WC.seq fun K3920 hK3920 => ?_
    refine WC.seq fun K3921 hK3921 => ?_
    -- region 1
    refine WC.region ?_
    -- R1.0 8 := model.go:60 fieldAddr
    refine WL.v (by exact r_field ty_fld28_0 rfl) rfl rfl rfl ?_
    -- R1.1 9 := model.go:60 load
    refine WL.v (by exact r_load1 (v := .int .u8 (o.kind : Nat)) ty_one25 rfl (st.c0 (by decide))) rfl rfl rfl ?_
    refine WL.fin hK3921 (fun _ _ h => h) ?_
    refine WC.block ?_
    refine WC.seq fun K3922 hK3922 => ?_
    -- region 2
    refine WC.region ?_
    -- R2.0 11 := model.go:61 binOp
    refine WL.v (by exact r_eql rfl rfl (decide_eq_false (by omega))) rfl rfl rfl ?_
    -- R2.1 10 := model.go:61 assign
    refine WL.v (by first | exact r_assign (v := .bool _) rfl | exact r_assign rfl) rfl rfl rfl ?_
    refine WL.fin hK3922 (fun _ _ h => h) ?_
    refine WC.condF rfl rfl ?_
    refine WC.seq fun K3923 hK3923 => ?_
    -- region 9
    refine WC.region ?_
    -- R9.0 27 := model.go:70 binOp
    refine WL.v (by exact r_eql rfl rfl (decide_eq_false (by omega))) rfl rfl rfl ?_
    -- R9.1 26 := model.go:70 assign
    refine WL.v (by first | exact r_assign (v := .bool _) rfl | exact r_assign rfl) rfl rfl rfl ?_
    refine WL.fin hK3923 (fun _ _ h => h) ?_
    refine WC.condF rfl rfl ?_
    refine WC.seq fun K3924 hK3924 => ?_
    -- region 16
    refine WC.region ?_
    -- R16.0 58 := model.go:78 binOp
    refine WL.v (by exact r_eql rfl rfl (decide_eq_false (by omega))) rfl rfl rfl ?_
    -- R16.1 57 := model.go:78 assign
    refine WL.v (by first | exact r_assign (v := .bool _) rfl | exact r_assign rfl) rfl rfl rfl ?_
    refine WL.fin hK3924 (fun _ _ h => h) ?_
    refine WC.condF rfl rfl ?_
    refine WC.seq fun K3925 hK3925 => ?_
    -- region 19
    refine WC.region ?_
    -- R19.0 62 := model.go:81 binOp
    refine WL.v (by exact r_eql rfl rfl (decide_eq_false (by omega))) rfl rfl rfl ?_
    -- R19.1 61 := model.go:81 assign
    refine WL.v (by first | exact r_assign (v := .bool _) rfl | exact r_assign rfl) rfl rfl rfl ?_
    refine WL.fin hK3925 (fun _ _ h => h) ?_
    refine WC.condF rfl rfl ?_
    refine WC.skipF hK3920 (fun _ _ h => h) ?_
    refine WC.seq fun K3926 hK3926 => ?_
    refine WC.seq fun K3927 hK3927 => ?_
    -- region 21
    refine WC.region ?_
    -- R21.0 67 := model.go:84 fieldAddr
    refine WL.v (by exact r_field ty_fld28_0 rfl) rfl rfl rfl ?_
    -- R21.1 68 := model.go:84 load
    refine WL.v (by exact r_load1 (v := .int .u8 (o.kind : Nat)) ty_one25 rfl (st.c0 (by decide))) rfl rfl rfl ?_
    -- R21.2 69 := model.go:84 binOp
    refine WL.v (by exact r_geq rfl rfl (decide_eq_false (by omega))) rfl rfl rfl ?_
    refine WL.fin hK3927 (fun _ _ h => h) ?_
    refine WC.condF rfl rfl ?_
    refine WC.skipF hK3926 (fun _ _ h => h) ?_
    refine WC.seq fun K3928 hK3928 => ?_
    refine WC.seq fun K3929 hK3929 => ?_
    -- region 23
    refine WC.region ?_
    -- R23.0 70 := model.go:87 fieldAddr
    refine WL.v (by exact r_field ty_fld28_1 rfl) rfl rfl rfl ?_
    -- R23.1 71 := model.go:87 load
    refine WL.v (by exact r_load1 (v := .int .i64 o.A) ty_one2 rfl (st.c0 (by decide))) rfl rfl rfl ?_
    -- R23.2 72 := model.go:87 call
    refine WL.call (r_call ty_call93 rfl) rfl rfl rfl (withinM_ok (v := o.A) (n := 16) st) ?_
    rintro _ w ⟨he, st⟩
    have he : _ = Value.bool true := he.trans (by unfold wiP; rw [decide_eq_true ha])
    subst he
    -- R23.3 73 := model.go:87 unOp
    refine WL.v (by first | exact r_notT rfl | exact r_notF rfl | exact r_not rfl) rfl rfl rfl ?_
    refine WL.fin hK3929 (fun _ _ h => h) ?_
    refine WC.condF rfl rfl ?_
    refine WC.skipF hK3928 (fun _ _ h => h) ?_
    refine WC.seq fun K3930 hK3930 => ?_
    -- region 25
    refine WC.region ?_
    -- R25.0 74 := model.go:90 fieldAddr
    refine WL.v (by exact r_field ty_fld28_1 rfl) rfl rfl rfl ?_
    -- R25.1 75 := model.go:90 load
    refine WL.v (by exact r_load1 (v := .int .i64 (t : Nat)) ty_one2 rfl (by rw [← hA]; exact st.c0 (by decide))) rfl rfl rfl ?_
    -- R25.2 7 := model.go:90 assign
    refine WL.v (by first | exact r_assign (v := .int _ _) rfl | exact r_assign rfl) rfl rfl rfl ?_
    refine WL.fin hK3930 (fun _ _ h => h) ?_
    refine WC.seq fun K3931 hK3931 => ?_
    refine WC.seq fun K3932 hK3932 => ?_
    -- region 26
    refine WC.region ?_
    -- R26.0 76 := model.go:91 move
    refine WL.v (by first | exact r_move (v := .pointer _) rfl | exact r_move rfl) rfl rfl rfl ?_
    -- R26.1 77 := model.go:91 move
    refine WL.v (by first | exact r_move (v := .int _ _) rfl | exact r_move rfl) rfl rfl rfl ?_
    -- R26.2 78 := model.go:91 nilCheck
    refine WL.v (by exact r_nilCheck rfl) rfl rfl rfl ?_
    -- R26.3 79 := model.go:91 fieldAddr
    refine WL.v (by exact r_field ty_fld98_4 rfl) rfl rfl rfl ?_
    -- R26.4 80 := model.go:91 indexAddr
    refine WL.v (by exact r_indexA (j := t) ty_ar86 rfl rfl rfl ht) rfl rfl rfl ?_
    -- R26.5 81 := model.go:91 load
    refine WL.v (by exact r_load1 (v := .bool true) ty_one4 rfl (by rw [← hl]; exact c_mlive (m := mrOf s) (List.mem_cons_of_mem _ List.mem_cons_self) ht (by omega) st)) rfl rfl rfl ?_
    -- R26.6 82 := model.go:91 unOp
    refine WL.v (by first | exact r_notT rfl | exact r_notF rfl | exact r_not rfl) rfl rfl rfl ?_
    refine WL.fin hK3932 (fun _ _ h => h) ?_
    refine WC.condF rfl rfl ?_
    refine WC.skipF hK3931 (fun _ _ h => h) ?_
    refine WC.seq fun K3933 hK3933 => ?_
    refine WC.seq fun K3934 hK3934 => ?_
    -- region 28
    refine WC.region ?_
    -- R28.0 83 := model.go:94 move
    refine WL.v (by first | exact r_move (v := .pointer _) rfl | exact r_move rfl) rfl rfl rfl ?_
    -- R28.1 84 := model.go:94 move
    refine WL.v (by first | exact r_move (v := .int _ _) rfl | exact r_move rfl) rfl rfl rfl ?_
    -- R28.2 85 := model.go:94 call
    refine WL.call (r_call ty_call98 rfl) rfl rfl rfl (pl_some hrel.u hip hpt (List.mem_cons_of_mem _ List.mem_cons_self) hp (fun x hx => List.mem_cons_of_mem _ (List.mem_cons_of_mem _ (List.mem_append_left _ hx))) st) ?_
    rintro _ w ⟨rfl, st⟩
    -- R28.3 86 := model.go:94 binOp
    refine WL.v (by exact r_geq rfl rfl (decide_eq_true (by omega))) rfl rfl rfl ?_
    refine WL.fin hK3934 (fun _ _ h => h) ?_
    refine WC.condT rfl rfl ?_
    refine WC.seq fun K3935 hK3935 => ?_
    -- region 29
    refine WC.region ?_
    -- R29.0 4 := model.go:95 assign
    refine WL.v (by first | exact r_assign (v := .int _ _) rfl | exact r_assign rfl) rfl rfl rfl ?_
    -- R29.1 5 := model.go:95 assign
    refine WL.v (by first | exact r_assign (v := .int _ _) rfl | exact r_assign rfl) rfl rfl rfl ?_
    refine WL.fin hK3935 (fun _ _ h => h) ?_
    refine WC.ret2 Tryz.results69 (fun _ _ h => h) rfl ?_
    exact ⟨_, rfl, by rw [eS]; rfl, P, by rw [eS]; exact hrel, by rw [eS]; exact ⟨pv, XP, tv, XO, hp, ho, st.drop⟩⟩
  have hc : CallOK s t := ⟨ht, hl, hw⟩
  have h3 : (stepP s o).2.2 = -1 := by unfold stepP; split <;> first | rfl | omega
  have hcall : ∀ {w : World}, MK w0 bm mb s P l w → Calls Tryz.prog 99 #[.pointer (some ⟨bm, 0, none⟩), .int .i64 (t : Nat), .agg (opL o).toArray] w (Ret fun v w' => v = .int .i64 (stepP s o).2.1 ∧ ∃ P', RelP (stepP s o).1 P' ∧ MK w0 bm mb (stepP s o).1 P' l w') := fun mh => by
    rcases (by omega : o.kind = 2 ∨ o.kind = 3 ∨ o.kind = 4 ∨ o.kind = 5 ∨ o.kind = 6 ∨ o.kind = 7 ∨ o.kind = 8 ∨ o.kind = 9) with h | h | h | h | h | h | h | h
    · exact callM2_ok h hC1 hC2 hD hA hc hB (by omega) hI hct hrel mh
    · exact callM345_ok (tim := none) (.inl ⟨h, rfl⟩) hX64 hC1 hC2 hbi hti hnow harm hD hA hc hB (by omega) hI hct hrel mh
    · exact callM345_ok (tim := some 0) (.inr (.inl ⟨h, rfl⟩)) hX64 hC1 hC2 hbi hti hnow harm hD hA hc hB (by omega) hI hct hrel mh
    · exact callM345_ok (tim := some o.X) (.inr (.inr ⟨h, rfl⟩)) hX64 hC1 hC2 hbi hti hnow harm hD hA hc hB (by omega) hI hct hrel mh
    · exact callM6_ok h hD hA hc hB (by omega) hI hct hrel mh
    · exact callM7_ok h hD hA hc hB (by omega) hI hct hrel mh
    · exact callM8_ok h hD hA hc hB (by omega) hI hct hrel mh
    · exact callM9_ok h hD hA hc hB (by omega) hI hct hrel mh
  refine enter [.pointer (some ⟨bm, 0, none⟩), .agg (opL o).toArray] Tryz.func69 rfl Tryz.ntmps69 rfl ?_
  show WC _ _ _ 91 [] [(0, .pointer (some ⟨bm, 0, none⟩)), (1, .agg (opL o).toArray)] _
  refine WC.seq fun K3936 hK3936 => ?_
  -- region 0
  refine WC.region ?_
  -- R0.0 3 := model.go:59 box
  refine WL.box (m := 5) (vs := opL o) st rfl rfl rfl rfl rfl rfl ?_
  intro b3 w st
  have st : S0 w0 ((b3, Row 28 5 (nth (opL o))) :: moI bm (mrOf s) pv tv mb :: (XP ++ (XO ++ (mpI mb (odF s) ++ l)))) w := st
  -- R0.1 4 := model.go:59 assign
  refine WL.v (by first | exact r_assign (v := .int _ _) rfl | exact r_assign rfl) rfl rfl rfl ?_
  -- R0.2 5 := model.go:59 assign
  refine WL.v (by first | exact r_assign (v := .int _ _) rfl | exact r_assign rfl) rfl rfl rfl ?_
  refine WL.fin hK3936 (fun _ _ h => h) ?_
  refine WC.seq fun K3937 hK3937 => ?_
  refine WC.seq fun K3938 hK3938 => ?_
  -- region 1
  refine WC.region ?_
  -- R1.0 8 := model.go:60 fieldAddr
  refine WL.v (by exact r_field ty_fld28_0 rfl) rfl rfl rfl ?_
  -- R1.1 9 := model.go:60 load
  refine WL.v (by exact r_load1 (v := .int .u8 (o.kind : Nat)) ty_one25 rfl (st.c0 (by decide))) rfl rfl rfl ?_
  refine WL.fin hK3938 (fun _ _ h => h) ?_
  refine WC.block ?_
  refine WC.seq fun K3939 hK3939 => ?_
  -- region 2
  refine WC.region ?_
  -- R2.0 11 := model.go:61 binOp
  refine WL.v (by exact r_eql rfl rfl (decide_eq_false (by omega))) rfl rfl rfl ?_
  -- R2.1 10 := model.go:61 assign
  refine WL.v (by first | exact r_assign (v := .bool _) rfl | exact r_assign rfl) rfl rfl rfl ?_
  refine WL.fin hK3939 (fun _ _ h => h) ?_
  refine WC.condF rfl rfl ?_
  refine WC.seq fun K3940 hK3940 => ?_
  -- region 9
  refine WC.region ?_
  -- R9.0 27 := model.go:70 binOp
  refine WL.v (by exact r_eql rfl rfl (decide_eq_false (by omega))) rfl rfl rfl ?_
  -- R9.1 26 := model.go:70 assign
  refine WL.v (by first | exact r_assign (v := .bool _) rfl | exact r_assign rfl) rfl rfl rfl ?_
  refine WL.fin hK3940 (fun _ _ h => h) ?_
  refine WC.condF rfl rfl ?_
  refine WC.seq fun K3941 hK3941 => ?_
  -- region 16
  refine WC.region ?_
  -- R16.0 58 := model.go:78 binOp
  refine WL.v (by exact r_eql rfl rfl (decide_eq_false (by omega))) rfl rfl rfl ?_
  -- R16.1 57 := model.go:78 assign
  refine WL.v (by first | exact r_assign (v := .bool _) rfl | exact r_assign rfl) rfl rfl rfl ?_
  refine WL.fin hK3941 (fun _ _ h => h) ?_
  refine WC.condF rfl rfl ?_
  refine WC.seq fun K3942 hK3942 => ?_
  -- region 19
  refine WC.region ?_
  -- R19.0 62 := model.go:81 binOp
  refine WL.v (by exact r_eql rfl rfl (decide_eq_false (by omega))) rfl rfl rfl ?_
  -- R19.1 61 := model.go:81 assign
  refine WL.v (by first | exact r_assign (v := .bool _) rfl | exact r_assign rfl) rfl rfl rfl ?_
  refine WL.fin hK3942 (fun _ _ h => h) ?_
  refine WC.condF rfl rfl ?_
  refine WC.skipF hK3937 (fun _ _ h => h) ?_
  refine WC.seq fun K3943 hK3943 => ?_
  refine WC.seq fun K3944 hK3944 => ?_
  -- region 21
  refine WC.region ?_
  -- R21.0 67 := model.go:84 fieldAddr
  refine WL.v (by exact r_field ty_fld28_0 rfl) rfl rfl rfl ?_
  -- R21.1 68 := model.go:84 load
  refine WL.v (by exact r_load1 (v := .int .u8 (o.kind : Nat)) ty_one25 rfl (st.c0 (by decide))) rfl rfl rfl ?_
  -- R21.2 69 := model.go:84 binOp
  refine WL.v (by exact r_geq rfl rfl (decide_eq_false (by omega))) rfl rfl rfl ?_
  refine WL.fin hK3944 (fun _ _ h => h) ?_
  refine WC.condF rfl rfl ?_
  refine WC.skipF hK3943 (fun _ _ h => h) ?_
  refine WC.seq fun K3945 hK3945 => ?_
  refine WC.seq fun K3946 hK3946 => ?_
  -- region 23
  refine WC.region ?_
  -- R23.0 70 := model.go:87 fieldAddr
  refine WL.v (by exact r_field ty_fld28_1 rfl) rfl rfl rfl ?_
  -- R23.1 71 := model.go:87 load
  refine WL.v (by exact r_load1 (v := .int .i64 o.A) ty_one2 rfl (st.c0 (by decide))) rfl rfl rfl ?_
  -- R23.2 72 := model.go:87 call
  refine WL.call (r_call ty_call93 rfl) rfl rfl rfl (withinM_ok (v := o.A) (n := 16) st) ?_
  rintro _ w ⟨he, st⟩
  have he : _ = Value.bool true := he.trans (by unfold wiP; rw [decide_eq_true ha])
  subst he
  -- R23.3 73 := model.go:87 unOp
  refine WL.v (by first | exact r_notT rfl | exact r_notF rfl | exact r_not rfl) rfl rfl rfl ?_
  refine WL.fin hK3946 (fun _ _ h => h) ?_
  refine WC.condF rfl rfl ?_
  refine WC.skipF hK3945 (fun _ _ h => h) ?_
  refine WC.seq fun K3947 hK3947 => ?_
  -- region 25
  refine WC.region ?_
  -- R25.0 74 := model.go:90 fieldAddr
  refine WL.v (by exact r_field ty_fld28_1 rfl) rfl rfl rfl ?_
  -- R25.1 75 := model.go:90 load
  refine WL.v (by exact r_load1 (v := .int .i64 (t : Nat)) ty_one2 rfl (by rw [← hA]; exact st.c0 (by decide))) rfl rfl rfl ?_
  -- R25.2 7 := model.go:90 assign
  refine WL.v (by first | exact r_assign (v := .int _ _) rfl | exact r_assign rfl) rfl rfl rfl ?_
  refine WL.fin hK3947 (fun _ _ h => h) ?_
  refine WC.seq fun K3948 hK3948 => ?_
  refine WC.seq fun K3949 hK3949 => ?_
  -- region 26
  refine WC.region ?_
  -- R26.0 76 := model.go:91 move
  refine WL.v (by first | exact r_move (v := .pointer _) rfl | exact r_move rfl) rfl rfl rfl ?_
  -- R26.1 77 := model.go:91 move
  refine WL.v (by first | exact r_move (v := .int _ _) rfl | exact r_move rfl) rfl rfl rfl ?_
  -- R26.2 78 := model.go:91 nilCheck
  refine WL.v (by exact r_nilCheck rfl) rfl rfl rfl ?_
  -- R26.3 79 := model.go:91 fieldAddr
  refine WL.v (by exact r_field ty_fld98_4 rfl) rfl rfl rfl ?_
  -- R26.4 80 := model.go:91 indexAddr
  refine WL.v (by exact r_indexA (j := t) ty_ar86 rfl rfl rfl ht) rfl rfl rfl ?_
  -- R26.5 81 := model.go:91 load
  refine WL.v (by exact r_load1 (v := .bool true) ty_one4 rfl (by rw [← hl]; exact c_mlive (m := mrOf s) (List.mem_cons_of_mem _ List.mem_cons_self) ht (by omega) st)) rfl rfl rfl ?_
  -- R26.6 82 := model.go:91 unOp
  refine WL.v (by first | exact r_notT rfl | exact r_notF rfl | exact r_not rfl) rfl rfl rfl ?_
  refine WL.fin hK3949 (fun _ _ h => h) ?_
  refine WC.condF rfl rfl ?_
  refine WC.skipF hK3948 (fun _ _ h => h) ?_
  refine WC.seq fun K3950 hK3950 => ?_
  refine WC.seq fun K3951 hK3951 => ?_
  -- region 28
  refine WC.region ?_
  -- R28.0 83 := model.go:94 move
  refine WL.v (by first | exact r_move (v := .pointer _) rfl | exact r_move rfl) rfl rfl rfl ?_
  -- R28.1 84 := model.go:94 move
  refine WL.v (by first | exact r_move (v := .int _ _) rfl | exact r_move rfl) rfl rfl rfl ?_
  -- R28.2 85 := model.go:94 call
  refine WL.call (r_call ty_call98 rfl) rfl rfl rfl (pl_none (t := t) (hrel.free hI hw) (List.mem_cons_of_mem _ List.mem_cons_self) hp (fun x hx => List.mem_cons_of_mem _ (List.mem_cons_of_mem _ (List.mem_append_left _ hx))) st) ?_
  rintro _ w ⟨rfl, st⟩
  -- R28.3 86 := model.go:94 binOp
  refine WL.v (by exact r_geq rfl rfl (decide_eq_false (by decide))) rfl rfl rfl ?_
  refine WL.fin hK3951 (fun _ _ h => h) ?_
  refine WC.condF rfl rfl ?_
  refine WC.skipF hK3950 (fun _ _ h => h) ?_
  refine WC.seq fun K3952 hK3952 => ?_
  -- region 30
  refine WC.region ?_
  -- R30.0 87 := model.go:97 move
  refine WL.v (by first | exact r_move (v := .pointer _) rfl | exact r_move rfl) rfl rfl rfl ?_
  -- R30.1 88 := model.go:97 move
  refine WL.v (by first | exact r_move (v := .int _ _) rfl | exact r_move rfl) rfl rfl rfl ?_
  -- R30.2 89 := model.go:97 load
  refine WL.v (by exact r_loadL (vs := opL o) ty_agg28 rfl ⟨st.c0 (by decide), st.c0 (by decide), st.c0 (by decide), st.c0 (by decide), st.c0 (by decide), trivial⟩) rfl rfl rfl ?_
  -- R30.3 90 := model.go:97 call
  refine WL.call (r_call ty_call99 rfl) rfl rfl rfl (hcall ⟨pv, XP, tv, XO, hp, ho, st.drop⟩) ?_
  rintro _ w ⟨rfl, P', hrel', st⟩
  -- R30.4 4 := model.go:97 assign
  refine WL.v (by first | exact r_assign (v := .int _ _) rfl | exact r_assign rfl) rfl rfl rfl ?_
  -- R30.5 5 := model.go:97 assign
  refine WL.v (by first | exact r_assign (v := .int _ _) rfl | exact r_assign rfl) rfl rfl rfl ?_
  refine WL.fin hK3952 (fun _ _ h => h) ?_
  refine WC.ret2 Tryz.results69 (fun _ _ h => h) rfl ?_
  exact ⟨_, rfl, by rw [h3]; rfl, P', hrel', st⟩
end Go.Proofs.Qxb6500834aGreatDoor

