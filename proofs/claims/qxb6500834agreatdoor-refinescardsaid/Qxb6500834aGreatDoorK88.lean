import Derived.Test.Qxb6500834aGreatDoorK87
set_option linter.unusedVariables false
set_option linter.unusedSimpArgs false
set_option maxRecDepth 20000
namespace Go.Proofs.Qxb6500834aGreatDoor
open Go.RowKit Go.E1 Go.Kern
theorem ty_fld98_3 : fldOff Tryz.prog 98 3 = some 3 := by kernel_rfl
theorem ty_fld98_5 : fldOff Tryz.prog 98 5 = some 20 := by kernel_rfl
theorem ty_pl102 : plT Tryz.prog 102 = some [(0, 1), (1, 1), (2, 1), (3, 1), (4, 1)] := by kernel_rfl
variable {w0 : World} {l X : List HI} {w : World} {s s' s0 : KS} {t r N n : Nat} {qv qv' : Nat → Value}
variable {P : List PQ} {m : MR} {pv tv v : Value} {mb : Nat → Nat} {bm : Nat} {T : List (Nat × Nat × Nat)} {O : Nat → Nat → Option Nat} {held claim : Nat → Nat → Nat}

theorem TI.core' (h0 : TI s []) (h : Core [] s s') (hi : INV s) : TI s' [] := TI.core h hi h0
theorem iE_one {a : Nat} : ∀ k, k < 1 → (iE a k).oneCell' = true := fun _ _ => rfl
set_option maxHeartbeats 16000000 in
theorem acquireM_ok {o : Kern.Op} {tim : Option Nat} (hD : gD w0) (hk : o.kind = 3 ∧ tim = none ∨ o.kind = 4 ∧ tim = some 0 ∨ o.kind = 5 ∧ tim = some o.X) (hX64 : o.X < 18446744073709551616) (hC1 : -9223372036854775808 ≤ o.C) (hC2 : o.C < 9223372036854775808) (hr : r < 20) (hc : CallOK s t) (hB : KB N s) (hN : N + 100 ≤ 1000000) (hI : INV s) (hct : CT s) (hbi : BI s) (hti : TI s []) (hnow : s.now ≤ 1000000) (harm : s.armed ≤ 1000000) (hrel : RelP s P) (st : MK w0 bm mb s P l w) :
    Calls Tryz.prog 129 #[.pointer (some ⟨bm, 0, none⟩), .int .i64 (t : Nat), .int .i64 (r : Nat), .agg (opL o).toArray] w (Ret fun v w' => v = .int .i64 (acqM s t r (nameP o.C 17) tim).2 ∧ ∃ P', RelP (acqM s t r (nameP o.C 17) tim).1 P' ∧ MK w0 bm mb (acqM s t r (nameP o.C 17) tim).1 P' l w') := by
  obtain ⟨pv, XP, tv, XO, hp, ho, st⟩ := st
  have ht := hc.lt
  have htot := totP_le r
  have hhb := hB.held t r
  have hcb := hB.claim t r
  have hplen := hrel.len
  have hnn := hB.nn
  obtain ⟨U, hU⟩ : ∃ U, U = nameP o.C 17 := ⟨_, rfl⟩
  have hUC : (0 ≤ o.C ∧ o.C < 17 ∧ U = o.C) ∨ (¬ (0 ≤ o.C ∧ o.C < 17) ∧ U = -1) := by
    rw [hU]; unfold nameP
    split
    · rename_i h; exact .inr ⟨by omega, rfl⟩
    · rename_i h; exact .inl ⟨by omega, by omega, rfl⟩
  rw [← hU]
  by_cases h14 : 8 ≤ r ∧ o.C ≠ 1 ∧ o.C ≠ 16
  · have e := acqM_14 (s := s) (t := t) (U := U) (tim := tim) hr ⟨h14.1, by omega, by omega⟩
    refine enter [.pointer (some ⟨bm, 0, none⟩), .int .i64 (t : Nat), .int .i64 (r : Nat), .agg (opL o).toArray] Tryz.func129 rfl Tryz.ntmps129 rfl ?_
    show WC _ _ _ 293 [] [(0, .pointer (some ⟨bm, 0, none⟩)), (1, .int .i64 (t : Nat)), (2, .int .i64 (r : Nat)), (3, .agg (opL o).toArray)] _
    refine WC.seq fun K3357 hK3357 => ?_
    -- region 0
    refine WC.region ?_
    -- R0.0 7 := model.go:161 box
    refine WL.box (m := 5) (vs := opL o) st rfl rfl rfl rfl rfl rfl ?_
    intro b7 w st
    have st : S0 w0 ((b7, Row 28 5 (nth (opL o))) :: moI bm (mrOf s) pv tv mb :: (XP ++ (XO ++ (mpI mb (odF s) ++ l)))) w := st
    -- R0.1 8 := model.go:161 assign
    refine WL.v (by first | exact r_assign (v := .int _ _) rfl | exact r_assign rfl) rfl rfl rfl ?_
    refine WL.fin hK3357 (fun _ _ h => h) ?_
    refine WC.seq fun K3358 hK3358 => ?_
    -- region 1
    refine WC.region ?_
    -- R1.0 18 := model.go:162 move
    refine WL.v (by first | exact r_move (v := .int _ _) rfl | exact r_move rfl) rfl rfl rfl ?_
    -- R1.1 19 := model.go:162 binOp
    refine WL.v (by exact r_geq (t := decide (8 ≤ r)) rfl rfl (by rw [decide_eq_decide]; omega)) rfl rfl rfl ?_
    -- R1.2 9 := model.go:162 assign
    refine WL.v (by first | exact r_assign (v := .bool _) rfl | exact r_assign rfl) rfl rfl rfl ?_
    refine WL.fin hK3358 (fun _ _ h => h) ?_
    refine WC.seq fun K3359 hK3359 => ?_
    refine WC.seq fun K3360 hK3360 => ?_
    -- region 2
    refine WC.region ?_
    -- R2.0 20 := model.go:163 move
    refine WL.v (by exact r_move (v := .bool true) (congrArg Value.bool (decide_eq_true h14.1))) rfl rfl rfl ?_
    -- R2.1 21 := model.go:163 move
    refine WL.v (by first | exact r_move (v := .bool _) rfl | exact r_move rfl) rfl rfl rfl ?_
    -- R2.2 22 := model.go:163 fieldAddr
    refine WL.v (by exact r_field ty_fld28_3 rfl) rfl rfl rfl ?_
    -- R2.3 23 := model.go:163 load
    refine WL.v (by exact r_load1 (v := .int .i64 o.C) ty_one2 rfl (st.c0 (by decide))) rfl rfl rfl ?_
    -- R2.4 24 := model.go:163 binOp
    refine WL.v (by exact r_neq rfl rfl (decide_eq_true h14.2.1)) rfl rfl rfl ?_
    -- R2.5 25 := model.go:163 pick
    refine WL.v (by first | exact r_pickT (v := .bool _) rfl rfl | exact r_pickF (v := .bool _) rfl rfl) rfl rfl rfl ?_
    -- R2.6 26 := model.go:163 move
    refine WL.v (by first | exact r_move (v := .bool _) rfl | exact r_move rfl) rfl rfl rfl ?_
    -- R2.7 27 := model.go:163 fieldAddr
    refine WL.v (by exact r_field ty_fld28_3 rfl) rfl rfl rfl ?_
    -- R2.8 28 := model.go:163 load
    refine WL.v (by exact r_load1 (v := .int .i64 o.C) ty_one2 rfl (st.c0 (by decide))) rfl rfl rfl ?_
    -- R2.9 29 := model.go:163 binOp
    refine WL.v (by exact r_neq rfl rfl (decide_eq_true h14.2.2)) rfl rfl rfl ?_
    -- R2.10 30 := model.go:163 pick
    refine WL.v (by first | exact r_pickT (v := .bool _) rfl rfl | exact r_pickF (v := .bool _) rfl rfl) rfl rfl rfl ?_
    refine WL.fin hK3360 (fun _ _ h => h) ?_
    refine WC.condT rfl rfl ?_
    refine WC.seq fun K3361 hK3361 => ?_
    -- region 3
    refine WC.region ?_
    -- R3.0 8 := model.go:164 assign
    refine WL.v (by first | exact r_assign (v := .int _ _) rfl | exact r_assign rfl) rfl rfl rfl ?_
    refine WL.fin hK3361 (fun _ _ h => h) ?_
    refine WC.ret1 Tryz.results129 (fun _ _ h => h) rfl ?_
    exact ⟨_, rfl, by rw [e]; rfl, P, by rw [e]; exact hrel, by rw [e]; exact ⟨pv, XP, tv, XO, hp, ho, st.drop⟩⟩
  refine enter [.pointer (some ⟨bm, 0, none⟩), .int .i64 (t : Nat), .int .i64 (r : Nat), .agg (opL o).toArray] Tryz.func129 rfl Tryz.ntmps129 rfl ?_
  show WC _ _ _ 293 [] [(0, .pointer (some ⟨bm, 0, none⟩)), (1, .int .i64 (t : Nat)), (2, .int .i64 (r : Nat)), (3, .agg (opL o).toArray)] _
  refine WC.seq fun K3362 hK3362 => ?_
  -- region 0
  refine WC.region ?_
  -- R0.0 7 := model.go:161 box
  refine WL.box (m := 5) (vs := opL o) st rfl rfl rfl rfl rfl rfl ?_
  intro b7 w st
  have st : S0 w0 ((b7, Row 28 5 (nth (opL o))) :: moI bm (mrOf s) pv tv mb :: (XP ++ (XO ++ (mpI mb (odF s) ++ l)))) w := st
  -- R0.1 8 := model.go:161 assign
  refine WL.v (by first | exact r_assign (v := .int _ _) rfl | exact r_assign rfl) rfl rfl rfl ?_
  refine WL.fin hK3362 (fun _ _ h => h) ?_
  refine WC.seq fun K3363 hK3363 => ?_
  -- region 1
  refine WC.region ?_
  -- R1.0 18 := model.go:162 move
  refine WL.v (by first | exact r_move (v := .int _ _) rfl | exact r_move rfl) rfl rfl rfl ?_
  -- R1.1 19 := model.go:162 binOp
  refine WL.v (by exact r_geq (t := decide (8 ≤ r)) rfl rfl (by rw [decide_eq_decide]; omega)) rfl rfl rfl ?_
  -- R1.2 9 := model.go:162 assign
  refine WL.v (by first | exact r_assign (v := .bool _) rfl | exact r_assign rfl) rfl rfl rfl ?_
  refine WL.fin hK3363 (fun _ _ h => h) ?_
  refine WC.cut (ι := Unit) (fun _ => [(0, .pointer (some ⟨bm, 0, none⟩)), (1, .int .i64 (t : Nat)), (2, .int .i64 (r : Nat)), (7, .pointer (some ⟨b7, 0, none⟩)), (9, .bool (decide (8 ≤ r)))]) (fun _ w' => S0 w0 ((b7, Row 28 5 (nth (opL o))) :: moI bm (mrOf s) pv tv mb :: (XP ++ (XO ++ (mpI mb (odF s) ++ l)))) w') ?_ ?_
  rotate_left
  · intro KC hKC
    by_cases h8 : 8 ≤ r
    rotate_left
    · skip
      refine WC.seq fun K3364 hK3364 => ?_
      -- region 2
      refine WC.region ?_
      -- R2.0 20 := model.go:163 move
      refine WL.v (by exact r_move (v := .bool false) (congrArg Value.bool (decide_eq_false h8))) rfl rfl rfl ?_
      -- R2.1 21 := model.go:163 move
      refine WL.v (by first | exact r_move (v := .bool _) rfl | exact r_move rfl) rfl rfl rfl ?_
      -- R2.2 22 := model.go:163 fieldAddr
      refine WL.no rfl rfl ?_
      -- R2.3 23 := model.go:163 load
      refine WL.no rfl rfl ?_
      -- R2.4 24 := model.go:163 binOp
      refine WL.no rfl rfl ?_
      -- R2.5 25 := model.go:163 pick
      refine WL.v (by first | exact r_pickT (v := .bool _) rfl rfl | exact r_pickF (v := .bool _) rfl rfl) rfl rfl rfl ?_
      -- R2.6 26 := model.go:163 move
      refine WL.v (by first | exact r_move (v := .bool _) rfl | exact r_move rfl) rfl rfl rfl ?_
      -- R2.7 27 := model.go:163 fieldAddr
      refine WL.no rfl rfl ?_
      -- R2.8 28 := model.go:163 load
      refine WL.no rfl rfl ?_
      -- R2.9 29 := model.go:163 binOp
      refine WL.no rfl rfl ?_
      -- R2.10 30 := model.go:163 pick
      refine WL.v (by first | exact r_pickT (v := .bool _) rfl rfl | exact r_pickF (v := .bool _) rfl rfl) rfl rfl rfl ?_
      refine WL.fin hK3364 (fun _ _ h => h) ?_
      refine WC.condF rfl rfl ?_
      refine WC.skipJ hKC (fun _ _ h => h) () st (by repeat (first | exact sub_nil _ | refine sub_cons rfl rfl ?_))
    by_cases hc1 : o.C = 1
    · skip
      refine WC.seq fun K3365 hK3365 => ?_
      -- region 2
      refine WC.region ?_
      -- R2.0 20 := model.go:163 move
      refine WL.v (by exact r_move (v := .bool true) (congrArg Value.bool (decide_eq_true h8))) rfl rfl rfl ?_
      -- R2.1 21 := model.go:163 move
      refine WL.v (by first | exact r_move (v := .bool _) rfl | exact r_move rfl) rfl rfl rfl ?_
      -- R2.2 22 := model.go:163 fieldAddr
      refine WL.v (by exact r_field ty_fld28_3 rfl) rfl rfl rfl ?_
      -- R2.3 23 := model.go:163 load
      refine WL.v (by exact r_load1 (v := .int .i64 o.C) ty_one2 rfl (st.c0 (by decide))) rfl rfl rfl ?_
      -- R2.4 24 := model.go:163 binOp
      refine WL.v (by exact r_neq rfl rfl (decide_eq_false (by omega))) rfl rfl rfl ?_
      -- R2.5 25 := model.go:163 pick
      refine WL.v (by first | exact r_pickT (v := .bool _) rfl rfl | exact r_pickF (v := .bool _) rfl rfl) rfl rfl rfl ?_
      -- R2.6 26 := model.go:163 move
      refine WL.v (by first | exact r_move (v := .bool _) rfl | exact r_move rfl) rfl rfl rfl ?_
      -- R2.7 27 := model.go:163 fieldAddr
      refine WL.no rfl rfl ?_
      -- R2.8 28 := model.go:163 load
      refine WL.no rfl rfl ?_
      -- R2.9 29 := model.go:163 binOp
      refine WL.no rfl rfl ?_
      -- R2.10 30 := model.go:163 pick
      refine WL.v (by first | exact r_pickT (v := .bool _) rfl rfl | exact r_pickF (v := .bool _) rfl rfl) rfl rfl rfl ?_
      refine WL.fin hK3365 (fun _ _ h => h) ?_
      refine WC.condF rfl rfl ?_
      refine WC.skipJ hKC (fun _ _ h => h) () st (by repeat (first | exact sub_nil _ | refine sub_cons rfl rfl ?_))
    · have hc16 : o.C = 16 := Classical.byContradiction fun k => h14 ⟨h8, hc1, k⟩
      refine WC.seq fun K3366 hK3366 => ?_
      -- region 2
      refine WC.region ?_
      -- R2.0 20 := model.go:163 move
      refine WL.v (by exact r_move (v := .bool true) (congrArg Value.bool (decide_eq_true h8))) rfl rfl rfl ?_
      -- R2.1 21 := model.go:163 move
      refine WL.v (by first | exact r_move (v := .bool _) rfl | exact r_move rfl) rfl rfl rfl ?_
      -- R2.2 22 := model.go:163 fieldAddr
      refine WL.v (by exact r_field ty_fld28_3 rfl) rfl rfl rfl ?_
      -- R2.3 23 := model.go:163 load
      refine WL.v (by exact r_load1 (v := .int .i64 o.C) ty_one2 rfl (st.c0 (by decide))) rfl rfl rfl ?_
      -- R2.4 24 := model.go:163 binOp
      refine WL.v (by exact r_neq rfl rfl (decide_eq_true hc1)) rfl rfl rfl ?_
      -- R2.5 25 := model.go:163 pick
      refine WL.v (by first | exact r_pickT (v := .bool _) rfl rfl | exact r_pickF (v := .bool _) rfl rfl) rfl rfl rfl ?_
      -- R2.6 26 := model.go:163 move
      refine WL.v (by first | exact r_move (v := .bool _) rfl | exact r_move rfl) rfl rfl rfl ?_
      -- R2.7 27 := model.go:163 fieldAddr
      refine WL.v (by exact r_field ty_fld28_3 rfl) rfl rfl rfl ?_
      -- R2.8 28 := model.go:163 load
      refine WL.v (by exact r_load1 (v := .int .i64 o.C) ty_one2 rfl (st.c0 (by decide))) rfl rfl rfl ?_
      -- R2.9 29 := model.go:163 binOp
      refine WL.v (by exact r_neq rfl rfl (decide_eq_false (by omega))) rfl rfl rfl ?_
      -- R2.10 30 := model.go:163 pick
      refine WL.v (by first | exact r_pickT (v := .bool _) rfl rfl | exact r_pickF (v := .bool _) rfl rfl) rfl rfl rfl ?_
      refine WL.fin hK3366 (fun _ _ h => h) ?_
      refine WC.condF rfl rfl ?_
      refine WC.skipJ hKC (fun _ _ h => h) () st (by repeat (first | exact sub_nil _ | refine sub_cons rfl rfl ?_))
  clear st
  rintro _ w st
  have hn14 : ¬ (8 ≤ r ∧ U ≠ 1 ∧ U ≠ 16) := fun k => h14 ⟨k.1, by omega, by omega⟩
  by_cases h15 : 8 ≤ r ∧ 0 < s.held t r
  · have e := acqM_15 (U := U) (tim := tim) hr hn14 h15
    refine WC.seq fun K3367 hK3367 => ?_
    refine WC.seq fun K3368 hK3368 => ?_
    -- region 4
    refine WC.region ?_
    -- R4.0 31 := model.go:166 move
    refine WL.v (by exact r_move (v := .bool true) (congrArg Value.bool (decide_eq_true h15.1))) rfl rfl rfl ?_
    -- R4.1 32 := model.go:166 move
    refine WL.v (by first | exact r_move (v := .bool _) rfl | exact r_move rfl) rfl rfl rfl ?_
    -- R4.2 33 := model.go:166 move
    refine WL.v (by first | exact r_move (v := .pointer _) rfl | exact r_move rfl) rfl rfl rfl ?_
    -- R4.3 34 := model.go:166 move
    refine WL.v (by first | exact r_move (v := .int _ _) rfl | exact r_move rfl) rfl rfl rfl ?_
    -- R4.4 35 := model.go:166 move
    refine WL.v (by first | exact r_move (v := .int _ _) rfl | exact r_move rfl) rfl rfl rfl ?_
    -- R4.5 36 := model.go:166 nilCheck
    refine WL.v (by exact r_nilCheck rfl) rfl rfl rfl ?_
    -- R4.6 37 := model.go:166 fieldAddr
    refine WL.v (by exact r_field ty_fld98_7 rfl) rfl rfl rfl ?_
    -- R4.7 38 := model.go:166 indexAddr
    refine WL.v (by exact r_indexA (j := t) ty_ar45 rfl rfl rfl ht) rfl rfl rfl ?_
    -- R4.8 39 := model.go:166 indexAddr
    refine WL.v (by exact r_indexA (j := r) ty_ar44 rfl rfl rfl hr) rfl rfl rfl ?_
    -- R4.9 40 := model.go:166 load
    refine WL.v (by exact r_load1 (v := .int .i64 (s.held t r : Nat)) ty_one3 rfl (c_mheld (m := mrOf s) (List.mem_cons_of_mem _ List.mem_cons_self) ht hr (by omega) st)) rfl rfl rfl ?_
    -- R4.10 41 := model.go:166 binOp
    refine WL.v (by exact r_gtr rfl rfl (decide_eq_true (by omega))) rfl rfl rfl ?_
    -- R4.11 42 := model.go:166 pick
    refine WL.v (by first | exact r_pickT (v := .bool _) rfl rfl | exact r_pickF (v := .bool _) rfl rfl) rfl rfl rfl ?_
    refine WL.fin hK3368 (fun _ _ h => h) ?_
    refine WC.condT rfl rfl ?_
    refine WC.seq fun K3369 hK3369 => ?_
    -- region 5
    refine WC.region ?_
    -- R5.0 8 := model.go:167 assign
    refine WL.v (by first | exact r_assign (v := .int _ _) rfl | exact r_assign rfl) rfl rfl rfl ?_
    refine WL.fin hK3369 (fun _ _ h => h) ?_
    refine WC.ret1 Tryz.results129 (fun _ _ h => h) rfl ?_
    exact ⟨_, rfl, by rw [e]; rfl, P, by rw [e]; exact hrel, by rw [e]; exact ⟨pv, XP, tv, XO, hp, ho, st.drop⟩⟩
  refine WC.cut (ι := Unit) (fun _ => [(0, .pointer (some ⟨bm, 0, none⟩)), (1, .int .i64 (t : Nat)), (2, .int .i64 (r : Nat)), (7, .pointer (some ⟨b7, 0, none⟩))]) (fun _ w' => S0 w0 ((b7, Row 28 5 (nth (opL o))) :: moI bm (mrOf s) pv tv mb :: (XP ++ (XO ++ (mpI mb (odF s) ++ l)))) w') ?_ ?_
  rotate_left
  · intro KC hKC
    by_cases h8 : 8 ≤ r
    · skip
      refine WC.seq fun K3370 hK3370 => ?_
      -- region 4
      refine WC.region ?_
      -- R4.0 31 := model.go:166 move
      refine WL.v (by exact r_move (v := .bool true) (congrArg Value.bool (decide_eq_true h8))) rfl rfl rfl ?_
      -- R4.1 32 := model.go:166 move
      refine WL.v (by first | exact r_move (v := .bool _) rfl | exact r_move rfl) rfl rfl rfl ?_
      -- R4.2 33 := model.go:166 move
      refine WL.v (by first | exact r_move (v := .pointer _) rfl | exact r_move rfl) rfl rfl rfl ?_
      -- R4.3 34 := model.go:166 move
      refine WL.v (by first | exact r_move (v := .int _ _) rfl | exact r_move rfl) rfl rfl rfl ?_
      -- R4.4 35 := model.go:166 move
      refine WL.v (by first | exact r_move (v := .int _ _) rfl | exact r_move rfl) rfl rfl rfl ?_
      -- R4.5 36 := model.go:166 nilCheck
      refine WL.v (by exact r_nilCheck rfl) rfl rfl rfl ?_
      -- R4.6 37 := model.go:166 fieldAddr
      refine WL.v (by exact r_field ty_fld98_7 rfl) rfl rfl rfl ?_
      -- R4.7 38 := model.go:166 indexAddr
      refine WL.v (by exact r_indexA (j := t) ty_ar45 rfl rfl rfl ht) rfl rfl rfl ?_
      -- R4.8 39 := model.go:166 indexAddr
      refine WL.v (by exact r_indexA (j := r) ty_ar44 rfl rfl rfl hr) rfl rfl rfl ?_
      -- R4.9 40 := model.go:166 load
      refine WL.v (by exact r_load1 (v := .int .i64 (s.held t r : Nat)) ty_one3 rfl (c_mheld (m := mrOf s) (List.mem_cons_of_mem _ List.mem_cons_self) ht hr (by omega) st)) rfl rfl rfl ?_
      -- R4.10 41 := model.go:166 binOp
      refine WL.v (by exact r_gtr rfl rfl (decide_eq_false (by have := fun k => h15 ⟨h8, k⟩; omega))) rfl rfl rfl ?_
      -- R4.11 42 := model.go:166 pick
      refine WL.v (by first | exact r_pickT (v := .bool _) rfl rfl | exact r_pickF (v := .bool _) rfl rfl) rfl rfl rfl ?_
      refine WL.fin hK3370 (fun _ _ h => h) ?_
      refine WC.condF rfl rfl ?_
      refine WC.skipJ hKC (fun _ _ h => h) () st (by repeat (first | exact sub_nil _ | refine sub_cons rfl rfl ?_))
    · skip
      refine WC.seq fun K3371 hK3371 => ?_
      -- region 4
      refine WC.region ?_
      -- R4.0 31 := model.go:166 move
      refine WL.v (by exact r_move (v := .bool false) (congrArg Value.bool (decide_eq_false h8))) rfl rfl rfl ?_
      -- R4.1 32 := model.go:166 move
      refine WL.v (by first | exact r_move (v := .bool _) rfl | exact r_move rfl) rfl rfl rfl ?_
      -- R4.2 33 := model.go:166 move
      refine WL.no rfl rfl ?_
      -- R4.3 34 := model.go:166 move
      refine WL.no rfl rfl ?_
      -- R4.4 35 := model.go:166 move
      refine WL.no rfl rfl ?_
      -- R4.5 36 := model.go:166 nilCheck
      refine WL.no rfl rfl ?_
      -- R4.6 37 := model.go:166 fieldAddr
      refine WL.no rfl rfl ?_
      -- R4.7 38 := model.go:166 indexAddr
      refine WL.no rfl rfl ?_
      -- R4.8 39 := model.go:166 indexAddr
      refine WL.no rfl rfl ?_
      -- R4.9 40 := model.go:166 load
      refine WL.no rfl rfl ?_
      -- R4.10 41 := model.go:166 binOp
      refine WL.no rfl rfl ?_
      -- R4.11 42 := model.go:166 pick
      refine WL.v (by first | exact r_pickT (v := .bool _) rfl rfl | exact r_pickF (v := .bool _) rfl rfl) rfl rfl rfl ?_
      refine WL.fin hK3371 (fun _ _ h => h) ?_
      refine WC.condF rfl rfl ?_
      refine WC.skipJ hKC (fun _ _ h => h) () st (by repeat (first | exact sub_nil _ | refine sub_cons rfl rfl ?_))
  clear st
  rintro _ w st
  by_cases hlt1 : o.C < 1
  · have e := acqM_14b (s := s) (t := t) (U := U) (tim := tim) hr hn14 h15 (.inl (by omega))
    refine WC.seq fun K3372 hK3372 => ?_
    refine WC.seq fun K3373 hK3373 => ?_
    -- region 6 (draws)
    refine WC.quietS st ty_mixed (by kernel_rfl) fun Kq hKq => ?_
    -- R6.0 43 := model.go:169 fieldAddr
    refine QL.v (fun w st => by exact r_field ty_fld28_3 rfl) rfl rfl rfl ?_
    -- R6.1 44 := model.go:169 load
    refine QL.v (fun w st => by exact r_load1 (v := .int .i64 o.C) ty_one2 rfl (st.c0 (by decide))) rfl rfl rfl ?_
    -- R6.2 45 := model.go:169 binOp
    refine QL.v (fun w st => by exact r_lss rfl rfl (decide_eq_true hlt1)) rfl rfl rfl ?_
    -- R6.3 46 := model.go:169 move
    refine QL.v (fun w st => by first | exact r_move (v := .bool _) rfl | exact r_move rfl) rfl rfl rfl ?_
    -- R6.4 47 := model.go:169 fieldAddr
    refine QL.no rfl rfl ?_
    -- R6.5 48 := model.go:169 load
    refine QL.no rfl rfl ?_
    -- R6.6 49 := model.go:169 move
    refine QL.no rfl rfl ?_
    -- R6.7 50 := model.go:169 call
    refine QL.no rfl rfl ?_
    -- R6.8 51 := model.go:169 move
    refine QL.no rfl rfl ?_
    -- R6.9 52 := model.go:169 move
    refine QL.no rfl rfl ?_
    -- R6.10 53 := model.go:169 move
    refine QL.no rfl rfl ?_
    -- R6.11 54 := model.go:169 nilCheck
    refine QL.no rfl rfl ?_
    -- R6.12 55 := model.go:169 fieldAddr
    refine QL.no rfl rfl ?_
    -- R6.13 56 := model.go:169 indexAddr
    refine QL.no rfl rfl ?_
    -- R6.14 57 := model.go:169 indexAddr
    refine QL.no rfl rfl ?_
    -- R6.15 58 := model.go:169 load
    refine QL.no rfl rfl ?_
    -- R6.16 59 := model.go:169 binOp
    refine QL.no rfl rfl ?_
    -- R6.17 60 := model.go:169 binOp
    refine QL.no rfl rfl ?_
    -- R6.18 61 := model.go:169 pick
    refine QL.v (fun w st => by first | exact r_pickT (v := .bool _) rfl rfl | exact r_pickF (v := .bool _) rfl rfl) rfl rfl rfl ?_
    refine QL.wl hKq fun w st => ?_
    refine WL.fin hK3373 (fun _ _ h => h) ?_
    refine WC.condT rfl rfl ?_
    refine WC.seq fun K3374 hK3374 => ?_
    -- region 7
    refine WC.region ?_
    -- R7.0 8 := model.go:170 assign
    refine WL.v (by first | exact r_assign (v := .int _ _) rfl | exact r_assign rfl) rfl rfl rfl ?_
    refine WL.fin hK3374 (fun _ _ h => h) ?_
    refine WC.ret1 Tryz.results129 (fun _ _ h => h) rfl ?_
    exact ⟨_, rfl, by rw [e]; rfl, P, by rw [e]; exact hrel, by rw [e]; exact ⟨pv, XP, tv, XO, hp, ho, st.drop⟩⟩
  by_cases hgt : (totP r : Int) - s.held t r < o.C
  · have e := acqM_14b (s := s) (t := t) (U := U) (tim := tim) hr hn14 h15 (by omega)
    refine WC.seq fun K3375 hK3375 => ?_
    refine WC.seq fun K3376 hK3376 => ?_
    -- region 6 (draws)
    refine WC.quietS st ty_mixed (by kernel_rfl) fun Kq hKq => ?_
    -- R6.0 43 := model.go:169 fieldAddr
    refine QL.v (fun w st => by exact r_field ty_fld28_3 rfl) rfl rfl rfl ?_
    -- R6.1 44 := model.go:169 load
    refine QL.v (fun w st => by exact r_load1 (v := .int .i64 o.C) ty_one2 rfl (st.c0 (by decide))) rfl rfl rfl ?_
    -- R6.2 45 := model.go:169 binOp
    refine QL.v (fun w st => by exact r_lss rfl rfl (decide_eq_false hlt1)) rfl rfl rfl ?_
    -- R6.3 46 := model.go:169 move
    refine QL.v (fun w st => by first | exact r_move (v := .bool _) rfl | exact r_move rfl) rfl rfl rfl ?_
    -- R6.4 47 := model.go:169 fieldAddr
    refine QL.v (fun w st => by exact r_field ty_fld28_3 rfl) rfl rfl rfl ?_
    -- R6.5 48 := model.go:169 load
    refine QL.v (fun w st => by exact r_load1 (v := .int .i64 o.C) ty_one2 rfl (st.c0 (by decide))) rfl rfl rfl ?_
    -- R6.6 49 := model.go:169 move
    refine QL.v (fun w st => by first | exact r_move (v := .int _ _) rfl | exact r_move rfl) rfl rfl rfl ?_
    -- R6.7 50 := model.go:169 call
    refine QL.call (val := .int .i64 (totP r : Nat)) (fun w st => r_call ty_call58 rfl) rfl rfl rfl (fun w st => total_ok (r := r) st) ?_
    -- R6.8 51 := model.go:169 move
    refine QL.v (fun w st => by first | exact r_move (v := .pointer _) rfl | exact r_move rfl) rfl rfl rfl ?_
    -- R6.9 52 := model.go:169 move
    refine QL.v (fun w st => by first | exact r_move (v := .int _ _) rfl | exact r_move rfl) rfl rfl rfl ?_
    -- R6.10 53 := model.go:169 move
    refine QL.v (fun w st => by first | exact r_move (v := .int _ _) rfl | exact r_move rfl) rfl rfl rfl ?_
    -- R6.11 54 := model.go:169 nilCheck
    refine QL.v (fun w st => by exact r_nilCheck rfl) rfl rfl rfl ?_
    -- R6.12 55 := model.go:169 fieldAddr
    refine QL.v (fun w st => by exact r_field ty_fld98_7 rfl) rfl rfl rfl ?_
    -- R6.13 56 := model.go:169 indexAddr
    refine QL.v (fun w st => by exact r_indexA (j := t) ty_ar45 rfl rfl rfl ht) rfl rfl rfl ?_
    -- R6.14 57 := model.go:169 indexAddr
    refine QL.v (fun w st => by exact r_indexA (j := r) ty_ar44 rfl rfl rfl hr) rfl rfl rfl ?_
    -- R6.15 58 := model.go:169 load
    refine QL.v (fun w st => by exact r_load1 (v := .int .i64 (s.held t r : Nat)) ty_one3 rfl (c_mheld (m := mrOf s) (List.mem_cons_of_mem _ List.mem_cons_self) ht hr (by omega) st)) rfl rfl rfl ?_
    -- R6.16 59 := model.go:169 binOp
    refine QL.v (fun w st => by exact r_sub (r := (totP r : Int) - s.held t r) rfl rfl (wi64 (by omega) (by omega))) rfl rfl rfl ?_
    -- R6.17 60 := model.go:169 binOp
    refine QL.v (fun w st => by exact r_gtr rfl rfl (decide_eq_true hgt)) rfl rfl rfl ?_
    -- R6.18 61 := model.go:169 pick
    refine QL.v (fun w st => by first | exact r_pickT (v := .bool _) rfl rfl | exact r_pickF (v := .bool _) rfl rfl) rfl rfl rfl ?_
    refine QL.wl hKq fun w st => ?_
    refine WL.fin hK3376 (fun _ _ h => h) ?_
    refine WC.condT rfl rfl ?_
    refine WC.seq fun K3377 hK3377 => ?_
    -- region 7
    refine WC.region ?_
    -- R7.0 8 := model.go:170 assign
    refine WL.v (by first | exact r_assign (v := .int _ _) rfl | exact r_assign rfl) rfl rfl rfl ?_
    refine WL.fin hK3377 (fun _ _ h => h) ?_
    refine WC.ret1 Tryz.results129 (fun _ _ h => h) rfl ?_
    exact ⟨_, rfl, by rw [e]; rfl, P, by rw [e]; exact hrel, by rw [e]; exact ⟨pv, XP, tv, XO, hp, ho, st.drop⟩⟩
  obtain ⟨u, hu⟩ : ∃ u : Nat, o.C = u := ⟨o.C.toNat, by omega⟩
  have hUu : U = u := by omega
  have hu16 : 1 ≤ u ∧ u ≤ 16 := by omega
  have hroom : s.held t r + u ≤ totP r := by omega
  have eA := acqM_ok (s := s) (t := t) (U := U) (tim := tim) hr hn14 h15 (by omega)
  rw [hUu, Int.toNat_natCast] at eA
  rw [hUu]
  by_cases h21 : s.mode = 3 ∧ (s.claim t r : Int) < (s.held t r : Nat) + (u : Int)
  · rw [if_pos h21] at eA
    refine WC.seq fun K3378 hK3378 => ?_
    refine WC.seq fun K3379 hK3379 => ?_
    -- region 6 (draws)
    refine WC.quietS st ty_mixed (by kernel_rfl) fun Kq hKq => ?_
    -- R6.0 43 := model.go:169 fieldAddr
    refine QL.v (fun w st => by exact r_field ty_fld28_3 rfl) rfl rfl rfl ?_
    -- R6.1 44 := model.go:169 load
    refine QL.v (fun w st => by exact r_load1 (v := .int .i64 o.C) ty_one2 rfl (st.c0 (by decide))) rfl rfl rfl ?_
    -- R6.2 45 := model.go:169 binOp
    refine QL.v (fun w st => by exact r_lss rfl rfl (decide_eq_false hlt1)) rfl rfl rfl ?_
    -- R6.3 46 := model.go:169 move
    refine QL.v (fun w st => by first | exact r_move (v := .bool _) rfl | exact r_move rfl) rfl rfl rfl ?_
    -- R6.4 47 := model.go:169 fieldAddr
    refine QL.v (fun w st => by exact r_field ty_fld28_3 rfl) rfl rfl rfl ?_
    -- R6.5 48 := model.go:169 load
    refine QL.v (fun w st => by exact r_load1 (v := .int .i64 o.C) ty_one2 rfl (st.c0 (by decide))) rfl rfl rfl ?_
    -- R6.6 49 := model.go:169 move
    refine QL.v (fun w st => by first | exact r_move (v := .int _ _) rfl | exact r_move rfl) rfl rfl rfl ?_
    -- R6.7 50 := model.go:169 call
    refine QL.call (val := .int .i64 (totP r : Nat)) (fun w st => r_call ty_call58 rfl) rfl rfl rfl (fun w st => total_ok (r := r) st) ?_
    -- R6.8 51 := model.go:169 move
    refine QL.v (fun w st => by first | exact r_move (v := .pointer _) rfl | exact r_move rfl) rfl rfl rfl ?_
    -- R6.9 52 := model.go:169 move
    refine QL.v (fun w st => by first | exact r_move (v := .int _ _) rfl | exact r_move rfl) rfl rfl rfl ?_
    -- R6.10 53 := model.go:169 move
    refine QL.v (fun w st => by first | exact r_move (v := .int _ _) rfl | exact r_move rfl) rfl rfl rfl ?_
    -- R6.11 54 := model.go:169 nilCheck
    refine QL.v (fun w st => by exact r_nilCheck rfl) rfl rfl rfl ?_
    -- R6.12 55 := model.go:169 fieldAddr
    refine QL.v (fun w st => by exact r_field ty_fld98_7 rfl) rfl rfl rfl ?_
    -- R6.13 56 := model.go:169 indexAddr
    refine QL.v (fun w st => by exact r_indexA (j := t) ty_ar45 rfl rfl rfl ht) rfl rfl rfl ?_
    -- R6.14 57 := model.go:169 indexAddr
    refine QL.v (fun w st => by exact r_indexA (j := r) ty_ar44 rfl rfl rfl hr) rfl rfl rfl ?_
    -- R6.15 58 := model.go:169 load
    refine QL.v (fun w st => by exact r_load1 (v := .int .i64 (s.held t r : Nat)) ty_one3 rfl (c_mheld (m := mrOf s) (List.mem_cons_of_mem _ List.mem_cons_self) ht hr (by omega) st)) rfl rfl rfl ?_
    -- R6.16 59 := model.go:169 binOp
    refine QL.v (fun w st => by exact r_sub (r := (totP r : Int) - s.held t r) rfl rfl (wi64 (by omega) (by omega))) rfl rfl rfl ?_
    -- R6.17 60 := model.go:169 binOp
    refine QL.v (fun w st => by exact r_gtr rfl rfl (decide_eq_false hgt)) rfl rfl rfl ?_
    -- R6.18 61 := model.go:169 pick
    refine QL.v (fun w st => by first | exact r_pickT (v := .bool _) rfl rfl | exact r_pickF (v := .bool _) rfl rfl) rfl rfl rfl ?_
    refine QL.wl hKq fun w st => ?_
    refine WL.fin hK3379 (fun _ _ h => h) ?_
    refine WC.condF rfl rfl ?_
    refine WC.skipF hK3378 (fun _ _ h => h) ?_
    refine WC.seq fun K3380 hK3380 => ?_
    -- region 8
    refine WC.region ?_
    -- R8.0 62 := model.go:172 fieldAddr
    refine WL.v (by exact r_field ty_fld28_3 rfl) rfl rfl rfl ?_
    -- R8.1 63 := model.go:172 load
    refine WL.v (by exact r_load1 (v := .int .i64 (u : Nat)) ty_one2 rfl (by rw [← hu]; exact st.c0 (by decide))) rfl rfl rfl ?_
    -- R8.2 10 := model.go:172 assign
    refine WL.v (by first | exact r_assign (v := .int _ _) rfl | exact r_assign rfl) rfl rfl rfl ?_
    refine WL.fin hK3380 (fun _ _ h => h) ?_
    refine WC.seq fun K3381 hK3381 => ?_
    refine WC.seq fun K3382 hK3382 => ?_
    -- region 9 (draws)
    refine WC.quietS st ty_mixed (by kernel_rfl) fun Kq hKq => ?_
    -- R9.0 64 := model.go:173 move
    refine QL.v (fun w st => by first | exact r_move (v := .pointer _) rfl | exact r_move rfl) rfl rfl rfl ?_
    -- R9.1 65 := model.go:173 nilCheck
    refine QL.v (fun w st => by exact r_nilCheck rfl) rfl rfl rfl ?_
    -- R9.2 66 := model.go:173 fieldAddr
    refine QL.v (fun w st => by exact r_field ty_fld98_0 rfl) rfl rfl rfl ?_
    -- R9.3 67 := model.go:173 load
    refine QL.v (fun w st => by exact r_load1 (v := .int .i64 (s.mode : Nat)) ty_one40 rfl (c_m (m := mrOf s) (List.mem_cons_of_mem _ List.mem_cons_self) (by decide) rfl st)) rfl rfl rfl ?_
    -- R9.4 68 := model.go:173 binOp
    refine QL.v (fun w st => by exact r_eql rfl rfl (decide_eq_true (by omega))) rfl rfl rfl ?_
    -- R9.5 69 := model.go:173 move
    refine QL.v (fun w st => by first | exact r_move (v := .bool _) rfl | exact r_move rfl) rfl rfl rfl ?_
    -- R9.6 70 := model.go:173 move
    refine QL.v (fun w st => by first | exact r_move (v := .pointer _) rfl | exact r_move rfl) rfl rfl rfl ?_
    -- R9.7 71 := model.go:173 move
    refine QL.v (fun w st => by first | exact r_move (v := .int _ _) rfl | exact r_move rfl) rfl rfl rfl ?_
    -- R9.8 72 := model.go:173 move
    refine QL.v (fun w st => by first | exact r_move (v := .int _ _) rfl | exact r_move rfl) rfl rfl rfl ?_
    -- R9.9 73 := model.go:173 nilCheck
    refine QL.v (fun w st => by exact r_nilCheck rfl) rfl rfl rfl ?_
    -- R9.10 74 := model.go:173 fieldAddr
    refine QL.v (fun w st => by exact r_field ty_fld98_7 rfl) rfl rfl rfl ?_
    -- R9.11 75 := model.go:173 indexAddr
    refine QL.v (fun w st => by exact r_indexA (j := t) ty_ar45 rfl rfl rfl ht) rfl rfl rfl ?_
    -- R9.12 76 := model.go:173 indexAddr
    refine QL.v (fun w st => by exact r_indexA (j := r) ty_ar44 rfl rfl rfl hr) rfl rfl rfl ?_
    -- R9.13 77 := model.go:173 load
    refine QL.v (fun w st => by exact r_load1 (v := .int .i64 (s.held t r : Nat)) ty_one3 rfl (c_mheld (m := mrOf s) (List.mem_cons_of_mem _ List.mem_cons_self) ht hr (by omega) st)) rfl rfl rfl ?_
    -- R9.14 78 := model.go:173 move
    refine QL.v (fun w st => by first | exact r_move (v := .int _ _) rfl | exact r_move rfl) rfl rfl rfl ?_
    -- R9.15 79 := model.go:173 binOp
    refine QL.v (fun w st => by exact r_add (r := ((s.held t r + u : Nat) : Int)) rfl rfl ((wi64 (by omega) (by omega)).trans (by omega))) rfl rfl rfl ?_
    -- R9.16 80 := model.go:173 move
    refine QL.v (fun w st => by first | exact r_move (v := .pointer _) rfl | exact r_move rfl) rfl rfl rfl ?_
    -- R9.17 81 := model.go:173 move
    refine QL.v (fun w st => by first | exact r_move (v := .int _ _) rfl | exact r_move rfl) rfl rfl rfl ?_
    -- R9.18 82 := model.go:173 move
    refine QL.v (fun w st => by first | exact r_move (v := .int _ _) rfl | exact r_move rfl) rfl rfl rfl ?_
    -- R9.19 83 := model.go:173 nilCheck
    refine QL.v (fun w st => by exact r_nilCheck rfl) rfl rfl rfl ?_
    -- R9.20 84 := model.go:173 fieldAddr
    refine QL.v (fun w st => by exact r_field ty_fld98_8 rfl) rfl rfl rfl ?_
    -- R9.21 85 := model.go:173 indexAddr
    refine QL.v (fun w st => by exact r_indexA (j := t) ty_ar45 rfl rfl rfl ht) rfl rfl rfl ?_
    -- R9.22 86 := model.go:173 indexAddr
    refine QL.v (fun w st => by exact r_indexA (j := r) ty_ar44 rfl rfl rfl hr) rfl rfl rfl ?_
    -- R9.23 87 := model.go:173 load
    refine QL.v (fun w st => by exact r_load1 (v := .int .i64 (s.claim t r : Nat)) ty_one3 rfl (c_mclaim (m := mrOf s) (List.mem_cons_of_mem _ List.mem_cons_self) ht hr (by omega) st)) rfl rfl rfl ?_
    -- R9.24 88 := model.go:173 binOp
    refine QL.v (fun w st => by exact r_gtr rfl rfl (decide_eq_true (by omega))) rfl rfl rfl ?_
    -- R9.25 89 := model.go:173 pick
    refine QL.v (fun w st => by first | exact r_pickT (v := .bool _) rfl rfl | exact r_pickF (v := .bool _) rfl rfl) rfl rfl rfl ?_
    refine QL.wl hKq fun w st => ?_
    refine WL.fin hK3382 (fun _ _ h => h) ?_
    refine WC.condT rfl rfl ?_
    refine WC.seq fun K3383 hK3383 => ?_
    -- region 10
    refine WC.region ?_
    -- R10.0 8 := model.go:174 assign
    refine WL.v (by first | exact r_assign (v := .int _ _) rfl | exact r_assign rfl) rfl rfl rfl ?_
    refine WL.fin hK3383 (fun _ _ h => h) ?_
    refine WC.ret1 Tryz.results129 (fun _ _ h => h) rfl ?_
    exact ⟨_, rfl, by rw [eA]; rfl, P, by rw [eA]; exact hrel, by rw [eA]; exact ⟨pv, XP, tv, XO, hp, ho, st.drop⟩⟩
  rw [if_neg h21] at eA
  refine WC.seq fun K3384 hK3384 => ?_
  refine WC.seq fun K3385 hK3385 => ?_
  -- region 6 (draws)
  refine WC.quietS st ty_mixed (by kernel_rfl) fun Kq hKq => ?_
  -- R6.0 43 := model.go:169 fieldAddr
  refine QL.v (fun w st => by exact r_field ty_fld28_3 rfl) rfl rfl rfl ?_
  -- R6.1 44 := model.go:169 load
  refine QL.v (fun w st => by exact r_load1 (v := .int .i64 o.C) ty_one2 rfl (st.c0 (by decide))) rfl rfl rfl ?_
  -- R6.2 45 := model.go:169 binOp
  refine QL.v (fun w st => by exact r_lss rfl rfl (decide_eq_false hlt1)) rfl rfl rfl ?_
  -- R6.3 46 := model.go:169 move
  refine QL.v (fun w st => by first | exact r_move (v := .bool _) rfl | exact r_move rfl) rfl rfl rfl ?_
  -- R6.4 47 := model.go:169 fieldAddr
  refine QL.v (fun w st => by exact r_field ty_fld28_3 rfl) rfl rfl rfl ?_
  -- R6.5 48 := model.go:169 load
  refine QL.v (fun w st => by exact r_load1 (v := .int .i64 o.C) ty_one2 rfl (st.c0 (by decide))) rfl rfl rfl ?_
  -- R6.6 49 := model.go:169 move
  refine QL.v (fun w st => by first | exact r_move (v := .int _ _) rfl | exact r_move rfl) rfl rfl rfl ?_
  -- R6.7 50 := model.go:169 call
  refine QL.call (val := .int .i64 (totP r : Nat)) (fun w st => r_call ty_call58 rfl) rfl rfl rfl (fun w st => total_ok (r := r) st) ?_
  -- R6.8 51 := model.go:169 move
  refine QL.v (fun w st => by first | exact r_move (v := .pointer _) rfl | exact r_move rfl) rfl rfl rfl ?_
  -- R6.9 52 := model.go:169 move
  refine QL.v (fun w st => by first | exact r_move (v := .int _ _) rfl | exact r_move rfl) rfl rfl rfl ?_
  -- R6.10 53 := model.go:169 move
  refine QL.v (fun w st => by first | exact r_move (v := .int _ _) rfl | exact r_move rfl) rfl rfl rfl ?_
  -- R6.11 54 := model.go:169 nilCheck
  refine QL.v (fun w st => by exact r_nilCheck rfl) rfl rfl rfl ?_
  -- R6.12 55 := model.go:169 fieldAddr
  refine QL.v (fun w st => by exact r_field ty_fld98_7 rfl) rfl rfl rfl ?_
  -- R6.13 56 := model.go:169 indexAddr
  refine QL.v (fun w st => by exact r_indexA (j := t) ty_ar45 rfl rfl rfl ht) rfl rfl rfl ?_
  -- R6.14 57 := model.go:169 indexAddr
  refine QL.v (fun w st => by exact r_indexA (j := r) ty_ar44 rfl rfl rfl hr) rfl rfl rfl ?_
  -- R6.15 58 := model.go:169 load
  refine QL.v (fun w st => by exact r_load1 (v := .int .i64 (s.held t r : Nat)) ty_one3 rfl (c_mheld (m := mrOf s) (List.mem_cons_of_mem _ List.mem_cons_self) ht hr (by omega) st)) rfl rfl rfl ?_
  -- R6.16 59 := model.go:169 binOp
  refine QL.v (fun w st => by exact r_sub (r := (totP r : Int) - s.held t r) rfl rfl (wi64 (by omega) (by omega))) rfl rfl rfl ?_
  -- R6.17 60 := model.go:169 binOp
  refine QL.v (fun w st => by exact r_gtr rfl rfl (decide_eq_false hgt)) rfl rfl rfl ?_
  -- R6.18 61 := model.go:169 pick
  refine QL.v (fun w st => by first | exact r_pickT (v := .bool _) rfl rfl | exact r_pickF (v := .bool _) rfl rfl) rfl rfl rfl ?_
  refine QL.wl hKq fun w st => ?_
  refine WL.fin hK3385 (fun _ _ h => h) ?_
  refine WC.condF rfl rfl ?_
  refine WC.skipF hK3384 (fun _ _ h => h) ?_
  refine WC.seq fun K3386 hK3386 => ?_
  -- region 8
  refine WC.region ?_
  -- R8.0 62 := model.go:172 fieldAddr
  refine WL.v (by exact r_field ty_fld28_3 rfl) rfl rfl rfl ?_
  -- R8.1 63 := model.go:172 load
  refine WL.v (by exact r_load1 (v := .int .i64 (u : Nat)) ty_one2 rfl (by rw [← hu]; exact st.c0 (by decide))) rfl rfl rfl ?_
  -- R8.2 10 := model.go:172 assign
  refine WL.v (by first | exact r_assign (v := .int _ _) rfl | exact r_assign rfl) rfl rfl rfl ?_
  refine WL.fin hK3386 (fun _ _ h => h) ?_
  refine WC.cut (ι := Unit) (fun _ => [(0, .pointer (some ⟨bm, 0, none⟩)), (1, .int .i64 (t : Nat)), (2, .int .i64 (r : Nat)), (7, .pointer (some ⟨b7, 0, none⟩)), (10, .int .i64 (u : Nat))]) (fun _ w' => S0 w0 ((b7, Row 28 5 (nth (opL o))) :: moI bm (mrOf s) pv tv mb :: (XP ++ (XO ++ (mpI mb (odF s) ++ l)))) w') ?_ ?_
  rotate_left
  · intro KC hKC
    by_cases hm3 : s.mode = 3
    · skip
      refine WC.seq fun K3387 hK3387 => ?_
      -- region 9 (draws)
      refine WC.quietS st ty_mixed (by kernel_rfl) fun Kq hKq => ?_
      -- R9.0 64 := model.go:173 move
      refine QL.v (fun w st => by first | exact r_move (v := .pointer _) rfl | exact r_move rfl) rfl rfl rfl ?_
      -- R9.1 65 := model.go:173 nilCheck
      refine QL.v (fun w st => by exact r_nilCheck rfl) rfl rfl rfl ?_
      -- R9.2 66 := model.go:173 fieldAddr
      refine QL.v (fun w st => by exact r_field ty_fld98_0 rfl) rfl rfl rfl ?_
      -- R9.3 67 := model.go:173 load
      refine QL.v (fun w st => by exact r_load1 (v := .int .i64 (s.mode : Nat)) ty_one40 rfl (c_m (m := mrOf s) (List.mem_cons_of_mem _ List.mem_cons_self) (by decide) rfl st)) rfl rfl rfl ?_
      -- R9.4 68 := model.go:173 binOp
      refine QL.v (fun w st => by exact r_eql rfl rfl (decide_eq_true (by omega))) rfl rfl rfl ?_
      -- R9.5 69 := model.go:173 move
      refine QL.v (fun w st => by first | exact r_move (v := .bool _) rfl | exact r_move rfl) rfl rfl rfl ?_
      -- R9.6 70 := model.go:173 move
      refine QL.v (fun w st => by first | exact r_move (v := .pointer _) rfl | exact r_move rfl) rfl rfl rfl ?_
      -- R9.7 71 := model.go:173 move
      refine QL.v (fun w st => by first | exact r_move (v := .int _ _) rfl | exact r_move rfl) rfl rfl rfl ?_
      -- R9.8 72 := model.go:173 move
      refine QL.v (fun w st => by first | exact r_move (v := .int _ _) rfl | exact r_move rfl) rfl rfl rfl ?_
      -- R9.9 73 := model.go:173 nilCheck
      refine QL.v (fun w st => by exact r_nilCheck rfl) rfl rfl rfl ?_
      -- R9.10 74 := model.go:173 fieldAddr
      refine QL.v (fun w st => by exact r_field ty_fld98_7 rfl) rfl rfl rfl ?_
      -- R9.11 75 := model.go:173 indexAddr
      refine QL.v (fun w st => by exact r_indexA (j := t) ty_ar45 rfl rfl rfl ht) rfl rfl rfl ?_
      -- R9.12 76 := model.go:173 indexAddr
      refine QL.v (fun w st => by exact r_indexA (j := r) ty_ar44 rfl rfl rfl hr) rfl rfl rfl ?_
      -- R9.13 77 := model.go:173 load
      refine QL.v (fun w st => by exact r_load1 (v := .int .i64 (s.held t r : Nat)) ty_one3 rfl (c_mheld (m := mrOf s) (List.mem_cons_of_mem _ List.mem_cons_self) ht hr (by omega) st)) rfl rfl rfl ?_
      -- R9.14 78 := model.go:173 move
      refine QL.v (fun w st => by first | exact r_move (v := .int _ _) rfl | exact r_move rfl) rfl rfl rfl ?_
      -- R9.15 79 := model.go:173 binOp
      refine QL.v (fun w st => by exact r_add (r := ((s.held t r + u : Nat) : Int)) rfl rfl ((wi64 (by omega) (by omega)).trans (by omega))) rfl rfl rfl ?_
      -- R9.16 80 := model.go:173 move
      refine QL.v (fun w st => by first | exact r_move (v := .pointer _) rfl | exact r_move rfl) rfl rfl rfl ?_
      -- R9.17 81 := model.go:173 move
      refine QL.v (fun w st => by first | exact r_move (v := .int _ _) rfl | exact r_move rfl) rfl rfl rfl ?_
      -- R9.18 82 := model.go:173 move
      refine QL.v (fun w st => by first | exact r_move (v := .int _ _) rfl | exact r_move rfl) rfl rfl rfl ?_
      -- R9.19 83 := model.go:173 nilCheck
      refine QL.v (fun w st => by exact r_nilCheck rfl) rfl rfl rfl ?_
      -- R9.20 84 := model.go:173 fieldAddr
      refine QL.v (fun w st => by exact r_field ty_fld98_8 rfl) rfl rfl rfl ?_
      -- R9.21 85 := model.go:173 indexAddr
      refine QL.v (fun w st => by exact r_indexA (j := t) ty_ar45 rfl rfl rfl ht) rfl rfl rfl ?_
      -- R9.22 86 := model.go:173 indexAddr
      refine QL.v (fun w st => by exact r_indexA (j := r) ty_ar44 rfl rfl rfl hr) rfl rfl rfl ?_
      -- R9.23 87 := model.go:173 load
      refine QL.v (fun w st => by exact r_load1 (v := .int .i64 (s.claim t r : Nat)) ty_one3 rfl (c_mclaim (m := mrOf s) (List.mem_cons_of_mem _ List.mem_cons_self) ht hr (by omega) st)) rfl rfl rfl ?_
      -- R9.24 88 := model.go:173 binOp
      refine QL.v (fun w st => by exact r_gtr rfl rfl (decide_eq_false (by have := fun k => h21 ⟨hm3, k⟩; omega))) rfl rfl rfl ?_
      -- R9.25 89 := model.go:173 pick
      refine QL.v (fun w st => by first | exact r_pickT (v := .bool _) rfl rfl | exact r_pickF (v := .bool _) rfl rfl) rfl rfl rfl ?_
      refine QL.wl hKq fun w st => ?_
      refine WL.fin hK3387 (fun _ _ h => h) ?_
      refine WC.condF rfl rfl ?_
      refine WC.skipJ hKC (fun _ _ h => h) () st (by repeat (first | exact sub_nil _ | refine sub_cons rfl rfl ?_))
    · skip
      refine WC.seq fun K3388 hK3388 => ?_
      -- region 9 (draws)
      refine WC.quietS st ty_mixed (by kernel_rfl) fun Kq hKq => ?_
      -- R9.0 64 := model.go:173 move
      refine QL.v (fun w st => by first | exact r_move (v := .pointer _) rfl | exact r_move rfl) rfl rfl rfl ?_
      -- R9.1 65 := model.go:173 nilCheck
      refine QL.v (fun w st => by exact r_nilCheck rfl) rfl rfl rfl ?_
      -- R9.2 66 := model.go:173 fieldAddr
      refine QL.v (fun w st => by exact r_field ty_fld98_0 rfl) rfl rfl rfl ?_
      -- R9.3 67 := model.go:173 load
      refine QL.v (fun w st => by exact r_load1 (v := .int .i64 (s.mode : Nat)) ty_one40 rfl (c_m (m := mrOf s) (List.mem_cons_of_mem _ List.mem_cons_self) (by decide) rfl st)) rfl rfl rfl ?_
      -- R9.4 68 := model.go:173 binOp
      refine QL.v (fun w st => by exact r_eql rfl rfl (decide_eq_false (by omega))) rfl rfl rfl ?_
      -- R9.5 69 := model.go:173 move
      refine QL.v (fun w st => by first | exact r_move (v := .bool _) rfl | exact r_move rfl) rfl rfl rfl ?_
      -- R9.6 70 := model.go:173 move
      refine QL.no rfl rfl ?_
      -- R9.7 71 := model.go:173 move
      refine QL.no rfl rfl ?_
      -- R9.8 72 := model.go:173 move
      refine QL.no rfl rfl ?_
      -- R9.9 73 := model.go:173 nilCheck
      refine QL.no rfl rfl ?_
      -- R9.10 74 := model.go:173 fieldAddr
      refine QL.no rfl rfl ?_
      -- R9.11 75 := model.go:173 indexAddr
      refine QL.no rfl rfl ?_
      -- R9.12 76 := model.go:173 indexAddr
      refine QL.no rfl rfl ?_
      -- R9.13 77 := model.go:173 load
      refine QL.no rfl rfl ?_
      -- R9.14 78 := model.go:173 move
      refine QL.no rfl rfl ?_
      -- R9.15 79 := model.go:173 binOp
      refine QL.no rfl rfl ?_
      -- R9.16 80 := model.go:173 move
      refine QL.no rfl rfl ?_
      -- R9.17 81 := model.go:173 move
      refine QL.no rfl rfl ?_
      -- R9.18 82 := model.go:173 move
      refine QL.no rfl rfl ?_
      -- R9.19 83 := model.go:173 nilCheck
      refine QL.no rfl rfl ?_
      -- R9.20 84 := model.go:173 fieldAddr
      refine QL.no rfl rfl ?_
      -- R9.21 85 := model.go:173 indexAddr
      refine QL.no rfl rfl ?_
      -- R9.22 86 := model.go:173 indexAddr
      refine QL.no rfl rfl ?_
      -- R9.23 87 := model.go:173 load
      refine QL.no rfl rfl ?_
      -- R9.24 88 := model.go:173 binOp
      refine QL.no rfl rfl ?_
      -- R9.25 89 := model.go:173 pick
      refine QL.v (fun w st => by first | exact r_pickT (v := .bool _) rfl rfl | exact r_pickF (v := .bool _) rfl rfl) rfl rfl rfl ?_
      refine QL.wl hKq fun w st => ?_
      refine WL.fin hK3388 (fun _ _ h => h) ?_
      refine WC.condF rfl rfl ?_
      refine WC.skipJ hKC (fun _ _ h => h) () st (by repeat (first | exact sub_nil _ | refine sub_cons rfl rfl ?_))
  clear st
  rintro _ w st
  clear h14 hn14 h15 hlt1 hgt h21
  have hX' : ∀ I : List HI, XP ⊆ I ++ ((b7, Row 28 5 (nth (opL o))) :: moI bm (mrOf s) pv tv mb :: (XP ++ (XO ++ (mpI mb (odF s) ++ l)))) := fun I x hx => by simp only [List.mem_cons, List.mem_append]; exact .inr (.inr (.inr (.inl hx)))
  have hmm' : moI bm (mrOf s) pv tv mb ∈ (b7, Row 28 5 (nth (opL o))) :: moI bm (mrOf s) pv tv mb :: (XP ++ (XO ++ (mpI mb (odF s) ++ l))) := List.mem_cons_of_mem _ List.mem_cons_self
  rcases hat : atOnceP s t r u with _ | _
  rotate_left
  · have ea : acq2 s t r u tim = (grant1 s t r u, 0) := by unfold acq2; rw [hat]; rfl
    rw [ea] at eA
    unfold atOnceP at hat
    rw [Bool.and_eq_true] at hat
    have hq : s.queue r = [] := by simpa using hat.1
    have had := hat.2
    have hfx : fiX P r = -1 := fiX_none (first_none (by rw [← hrel.q r hr]; exact hq))
    refine WC.seq fun K3389 hK3389 => ?_
    refine WC.seq fun K3390 hK3390 => ?_
    -- region 11
    refine WC.region ?_
    -- R11.0 90 := model.go:176 move
    refine WL.v (by first | exact r_move (v := .pointer _) rfl | exact r_move rfl) rfl rfl rfl ?_
    -- R11.1 91 := model.go:176 move
    refine WL.v (by first | exact r_move (v := .int _ _) rfl | exact r_move rfl) rfl rfl rfl ?_
    -- R11.2 92 := model.go:176 call
    refine WL.call (r_call ty_call157 rfl) rfl rfl rfl (first_ok (r := r) hmm' hp (hX' []) st) ?_
    rintro _ w ⟨he, st⟩
    rw [hfx] at he
    subst he
    -- R11.3 93 := model.go:176 binOp
    refine WL.v (by first | exact r_lss rfl rfl (decide_eq_true (by omega)) | exact r_lss rfl rfl (decide_eq_false (by omega)) | exact r_lss rfl rfl rfl) rfl rfl rfl ?_
    -- R11.4 94 := model.go:176 move
    refine WL.v (by first | exact r_move (v := .bool _) rfl | exact r_move rfl) rfl rfl rfl ?_
    -- R11.5 95 := model.go:176 move
    refine WL.v (by first | exact r_move (v := .pointer _) rfl | exact r_move rfl) rfl rfl rfl ?_
    -- R11.6 96 := model.go:176 move
    refine WL.v (by first | exact r_move (v := .int _ _) rfl | exact r_move rfl) rfl rfl rfl ?_
    -- R11.7 97 := model.go:176 move
    refine WL.v (by first | exact r_move (v := .int _ _) rfl | exact r_move rfl) rfl rfl rfl ?_
    -- R11.8 98 := model.go:176 move
    refine WL.v (by first | exact r_move (v := .int _ _) rfl | exact r_move rfl) rfl rfl rfl ?_
    -- R11.9 99 := model.go:176 call
    refine WL.call (r_call ty_call158 rfl) rfl rfl rfl (mayHave_ok hD ht hr hu16.2 hB.held hB.claim hct hmm' st) ?_
    rintro _ w ⟨he, st⟩
    rw [had] at he
    subst he
    -- R11.10 100 := model.go:176 pick
    refine WL.v (by first | exact r_pickT (v := .bool _) rfl rfl | exact r_pickF (v := .bool _) rfl rfl) rfl rfl rfl ?_
    refine WL.fin hK3390 (fun _ _ h => h) ?_
    refine WC.condT rfl rfl ?_
    refine WC.seq fun K3391 hK3391 => ?_
    -- region 12 (draws)
    refine WC.tailS 14 st ty_mixed (by kernel_rfl) fun w st Kq hKq => ?_
    -- R12.0 101 := model.go:177 move
    refine SL.v (by first | exact r_move (v := .pointer _) rfl | exact r_move rfl) rfl rfl rfl ?_
    -- R12.1 102 := model.go:177 move
    refine SL.v (by first | exact r_move (v := .int _ _) rfl | exact r_move rfl) rfl rfl rfl ?_
    -- R12.2 103 := model.go:177 move
    refine SL.v (by first | exact r_move (v := .int _ _) rfl | exact r_move rfl) rfl rfl rfl ?_
    -- R12.3 104 := model.go:177 nilCheck
    refine SL.v (by exact r_nilCheck rfl) rfl rfl rfl ?_
    -- R12.4 105 := model.go:177 fieldAddr
    refine SL.v (by exact r_field ty_fld98_7 rfl) rfl rfl rfl ?_
    -- R12.5 106 := model.go:177 indexAddr
    refine SL.v (by exact r_indexA (j := t) ty_ar45 rfl rfl rfl ht) rfl rfl rfl ?_
    -- R12.6 107 := model.go:177 indexAddr
    refine SL.v (by exact r_indexA (j := r) ty_ar44 rfl rfl rfl hr) rfl rfl rfl ?_
    -- R12.7 108 := model.go:177 load
    refine SL.v (by exact r_load1 (v := .int .i64 (s.held t r : Nat)) ty_one3 rfl (c_mheld (m := mrOf s) hmm' ht hr (by omega) st)) rfl rfl rfl ?_
    -- R12.8 109 := model.go:177 move
    refine SL.v (by first | exact r_move (v := .int _ _) rfl | exact r_move rfl) rfl rfl rfl ?_
    -- R12.9 110 := model.go:177 binOp
    refine SL.v (by exact r_add (r := ((s.held t r + u : Nat) : Int)) rfl rfl ((wi64 (by omega) (by omega)).trans (by omega))) rfl rfl rfl ?_
    -- R12.10 111 := model.go:177 nilCheck
    refine SL.v (by exact r_nilCheck rfl) rfl rfl rfl ?_
    -- R12.11 112 := model.go:177 fieldAddr
    refine SL.v (by exact r_field ty_fld98_7 rfl) rfl rfl rfl ?_
    -- R12.12 113 := model.go:177 indexAddr
    refine SL.v (by exact r_indexA (j := t) ty_ar45 rfl rfl rfl ht) rfl rfl rfl ?_
    -- R12.13 114 := model.go:177 indexAddr
    refine SL.v (by exact r_indexA (j := r) ty_ar44 rfl rfl rfl hr) rfl rfl rfl ?_
    refine SL.fin hKq ?_
    -- R12.14 None := model.go:177 store
    refine WL.store (v := .int .i64 ((s.held t r + u : Nat) : Int)) st.front1 ty_one3 rfl rfl rfl (by omega) rfl rfl ?_
    intro w st
    have st : S0 w0 (moI bm (mrOf (grant1 s t r u)) pv tv mb :: (b7, Row 28 5 (nth (opL o))) :: (XP ++ (XO ++ (mpI mb (odF s) ++ l)))) w := stE (mw_held ht hr) st
    refine WL.fin hK3391 (fun _ _ h => h) ?_
    refine WC.seq fun K3392 hK3392 => ?_
    -- region 13
    refine WC.region ?_
    -- R13.0 8 := model.go:178 assign
    refine WL.v (by first | exact r_assign (v := .int _ _) rfl | exact r_assign rfl) rfl rfl rfl ?_
    refine WL.fin hK3392 (fun _ _ h => h) ?_
    refine WC.ret1 Tryz.results129 (fun _ _ h => h) rfl ?_
    exact ⟨_, rfl, by rw [eA]; rfl, P, by rw [eA]; exact hrel.same rfl (fun _ => ⟨rfl, rfl⟩), by rw [eA]; exact ⟨pv, XP, tv, XO, hp, ho, st.drop1⟩⟩
  refine WC.cut (ι := Unit) (fun _ => [(0, .pointer (some ⟨bm, 0, none⟩)), (1, .int .i64 (t : Nat)), (2, .int .i64 (r : Nat)), (7, .pointer (some ⟨b7, 0, none⟩)), (10, .int .i64 (u : Nat))]) (fun _ w' => S0 w0 ((b7, Row 28 5 (nth (opL o))) :: moI bm (mrOf s) pv tv mb :: (XP ++ (XO ++ (mpI mb (odF s) ++ l)))) w') ?_ ?_
  rotate_left
  · intro KC hKC
    rcases hQ : s.queue r with _ | ⟨q, Q⟩
    · have hfx : fiX P r = -1 := fiX_none (first_none (by rw [← hrel.q r hr]; exact hQ))
      have had : admissibleP s t r u = false := by unfold atOnceP at hat; rw [hQ] at hat; simpa using hat
      refine WC.seq fun K3393 hK3393 => ?_
      -- region 11
      refine WC.region ?_
      -- R11.0 90 := model.go:176 move
      refine WL.v (by first | exact r_move (v := .pointer _) rfl | exact r_move rfl) rfl rfl rfl ?_
      -- R11.1 91 := model.go:176 move
      refine WL.v (by first | exact r_move (v := .int _ _) rfl | exact r_move rfl) rfl rfl rfl ?_
      -- R11.2 92 := model.go:176 call
      refine WL.call (r_call ty_call157 rfl) rfl rfl rfl (first_ok (r := r) hmm' hp (hX' []) st) ?_
      rintro _ w ⟨he, st⟩
      rw [hfx] at he
      subst he
      -- R11.3 93 := model.go:176 binOp
      refine WL.v (by first | exact r_lss rfl rfl (decide_eq_true (by omega)) | exact r_lss rfl rfl (decide_eq_false (by omega)) | exact r_lss rfl rfl rfl) rfl rfl rfl ?_
      -- R11.4 94 := model.go:176 move
      refine WL.v (by first | exact r_move (v := .bool _) rfl | exact r_move rfl) rfl rfl rfl ?_
      -- R11.5 95 := model.go:176 move
      refine WL.v (by first | exact r_move (v := .pointer _) rfl | exact r_move rfl) rfl rfl rfl ?_
      -- R11.6 96 := model.go:176 move
      refine WL.v (by first | exact r_move (v := .int _ _) rfl | exact r_move rfl) rfl rfl rfl ?_
      -- R11.7 97 := model.go:176 move
      refine WL.v (by first | exact r_move (v := .int _ _) rfl | exact r_move rfl) rfl rfl rfl ?_
      -- R11.8 98 := model.go:176 move
      refine WL.v (by first | exact r_move (v := .int _ _) rfl | exact r_move rfl) rfl rfl rfl ?_
      -- R11.9 99 := model.go:176 call
      refine WL.call (r_call ty_call158 rfl) rfl rfl rfl (mayHave_ok hD ht hr hu16.2 hB.held hB.claim hct hmm' st) ?_
      rintro _ w ⟨he, st⟩
      rw [had] at he
      subst he
      -- R11.10 100 := model.go:176 pick
      refine WL.v (by first | exact r_pickT (v := .bool _) rfl rfl | exact r_pickF (v := .bool _) rfl rfl) rfl rfl rfl ?_
      refine WL.fin hK3393 (fun _ _ h => h) ?_
      refine WC.condF rfl rfl ?_
      refine WC.skipJ hKC (fun _ _ h => h) () st (by repeat (first | exact sub_nil _ | refine sub_cons rfl rfl ?_))
    · obtain ⟨j, p, hj, hpr, hpq, hjf⟩ := first_of (by rw [← hrel.q r hr]; exact hQ)
      have hfx : fiX P r = j := fiX_some hj hpr hjf
      refine WC.seq fun K3394 hK3394 => ?_
      -- region 11
      refine WC.region ?_
      -- R11.0 90 := model.go:176 move
      refine WL.v (by first | exact r_move (v := .pointer _) rfl | exact r_move rfl) rfl rfl rfl ?_
      -- R11.1 91 := model.go:176 move
      refine WL.v (by first | exact r_move (v := .int _ _) rfl | exact r_move rfl) rfl rfl rfl ?_
      -- R11.2 92 := model.go:176 call
      refine WL.call (r_call ty_call157 rfl) rfl rfl rfl (first_ok (r := r) hmm' hp (hX' []) st) ?_
      rintro _ w ⟨he, st⟩
      rw [hfx] at he
      subst he
      -- R11.3 93 := model.go:176 binOp
      refine WL.v (by exact r_lss rfl rfl (decide_eq_false (by omega))) rfl rfl rfl ?_
      -- R11.4 94 := model.go:176 move
      refine WL.v (by first | exact r_move (v := .bool _) rfl | exact r_move rfl) rfl rfl rfl ?_
      -- R11.5 95 := model.go:176 move
      refine WL.no rfl rfl ?_
      -- R11.6 96 := model.go:176 move
      refine WL.no rfl rfl ?_
      -- R11.7 97 := model.go:176 move
      refine WL.no rfl rfl ?_
      -- R11.8 98 := model.go:176 move
      refine WL.no rfl rfl ?_
      -- R11.9 99 := model.go:176 call
      refine WL.no rfl rfl ?_
      -- R11.10 100 := model.go:176 pick
      refine WL.v (by first | exact r_pickT (v := .bool _) rfl rfl | exact r_pickF (v := .bool _) rfl rfl) rfl rfl rfl ?_
      refine WL.fin hK3394 (fun _ _ h => h) ?_
      refine WC.condF rfl rfl ?_
      refine WC.skipJ hKC (fun _ _ h => h) () st (by repeat (first | exact sub_nil _ | refine sub_cons rfl rfl ?_))
  clear st
  rintro _ w st
  by_cases h0 : tim = some 0
  · have ea : acq2 s t r u tim = (s, 5) := by unfold acq2; rw [hat, if_neg (by decide), if_pos h0]
    rw [ea] at eA
    rcases hk with hk | hk | hk
    · rw [hk.2] at h0; cases h0
    · skip
      refine WC.seq fun K3395 hK3395 => ?_
      refine WC.seq fun K3396 hK3396 => ?_
      -- region 14
      refine WC.region ?_
      -- R14.0 115 := model.go:180 fieldAddr
      refine WL.v (by exact r_field ty_fld28_0 rfl) rfl rfl rfl ?_
      -- R14.1 116 := model.go:180 load
      refine WL.v (by exact r_load1 (v := .int .u8 (o.kind : Nat)) ty_one25 rfl (st.c0 (by decide))) rfl rfl rfl ?_
      -- R14.2 117 := model.go:180 binOp
      refine WL.v (by exact r_eql rfl rfl (decide_eq_true (by omega))) rfl rfl rfl ?_
      -- R14.3 118 := model.go:180 move
      refine WL.v (by first | exact r_move (v := .bool _) rfl | exact r_move rfl) rfl rfl rfl ?_
      -- R14.4 119 := model.go:180 fieldAddr
      refine WL.no rfl rfl ?_
      -- R14.5 120 := model.go:180 load
      refine WL.no rfl rfl ?_
      -- R14.6 121 := model.go:180 binOp
      refine WL.no rfl rfl ?_
      -- R14.7 122 := model.go:180 move
      refine WL.no rfl rfl ?_
      -- R14.8 123 := model.go:180 fieldAddr
      refine WL.no rfl rfl ?_
      -- R14.9 124 := model.go:180 load
      refine WL.no rfl rfl ?_
      -- R14.10 125 := model.go:180 binOp
      refine WL.no rfl rfl ?_
      -- R14.11 126 := model.go:180 pick
      refine WL.no rfl rfl ?_
      -- R14.12 127 := model.go:180 pick
      refine WL.v (by first | exact r_pickT (v := .bool _) rfl rfl | exact r_pickF (v := .bool _) rfl rfl) rfl rfl rfl ?_
      refine WL.fin hK3396 (fun _ _ h => h) ?_
      refine WC.condT rfl rfl ?_
      refine WC.seq fun K3397 hK3397 => ?_
      -- region 15
      refine WC.region ?_
      -- R15.0 8 := model.go:181 assign
      refine WL.v (by first | exact r_assign (v := .int _ _) rfl | exact r_assign rfl) rfl rfl rfl ?_
      refine WL.fin hK3397 (fun _ _ h => h) ?_
      refine WC.ret1 Tryz.results129 (fun _ _ h => h) rfl ?_
      exact ⟨_, rfl, by rw [eA]; rfl, P, by rw [eA]; exact hrel, by rw [eA]; exact ⟨pv, XP, tv, XO, hp, ho, st.drop⟩⟩
    · have hx0 : o.X = 0 := by rw [hk.2] at h0; injection h0
      refine WC.seq fun K3398 hK3398 => ?_
      refine WC.seq fun K3399 hK3399 => ?_
      -- region 14
      refine WC.region ?_
      -- R14.0 115 := model.go:180 fieldAddr
      refine WL.v (by exact r_field ty_fld28_0 rfl) rfl rfl rfl ?_
      -- R14.1 116 := model.go:180 load
      refine WL.v (by exact r_load1 (v := .int .u8 (o.kind : Nat)) ty_one25 rfl (st.c0 (by decide))) rfl rfl rfl ?_
      -- R14.2 117 := model.go:180 binOp
      refine WL.v (by exact r_eql rfl rfl (decide_eq_false (by omega))) rfl rfl rfl ?_
      -- R14.3 118 := model.go:180 move
      refine WL.v (by first | exact r_move (v := .bool _) rfl | exact r_move rfl) rfl rfl rfl ?_
      -- R14.4 119 := model.go:180 fieldAddr
      refine WL.v (by exact r_field ty_fld28_0 rfl) rfl rfl rfl ?_
      -- R14.5 120 := model.go:180 load
      refine WL.v (by exact r_load1 (v := .int .u8 (o.kind : Nat)) ty_one25 rfl (st.c0 (by decide))) rfl rfl rfl ?_
      -- R14.6 121 := model.go:180 binOp
      refine WL.v (by exact r_eql rfl rfl (decide_eq_true (by omega))) rfl rfl rfl ?_
      -- R14.7 122 := model.go:180 move
      refine WL.v (by first | exact r_move (v := .bool _) rfl | exact r_move rfl) rfl rfl rfl ?_
      -- R14.8 123 := model.go:180 fieldAddr
      refine WL.v (by exact r_field ty_fld28_4 rfl) rfl rfl rfl ?_
      -- R14.9 124 := model.go:180 load
      refine WL.v (by exact r_load1 (v := .int .u64 (o.X : Nat)) ty_one26 rfl (st.c0 (by decide))) rfl rfl rfl ?_
      -- R14.10 125 := model.go:180 binOp
      refine WL.v (by exact r_eql rfl rfl (decide_eq_true (by omega))) rfl rfl rfl ?_
      -- R14.11 126 := model.go:180 pick
      refine WL.v (by first | exact r_pickT (v := .bool _) rfl rfl | exact r_pickF (v := .bool _) rfl rfl) rfl rfl rfl ?_
      -- R14.12 127 := model.go:180 pick
      refine WL.v (by first | exact r_pickT (v := .bool _) rfl rfl | exact r_pickF (v := .bool _) rfl rfl) rfl rfl rfl ?_
      refine WL.fin hK3399 (fun _ _ h => h) ?_
      refine WC.condT rfl rfl ?_
      refine WC.seq fun K3400 hK3400 => ?_
      -- region 15
      refine WC.region ?_
      -- R15.0 8 := model.go:181 assign
      refine WL.v (by first | exact r_assign (v := .int _ _) rfl | exact r_assign rfl) rfl rfl rfl ?_
      refine WL.fin hK3400 (fun _ _ h => h) ?_
      refine WC.ret1 Tryz.results129 (fun _ _ h => h) rfl ?_
      exact ⟨_, rfl, by rw [eA]; rfl, P, by rw [eA]; exact hrel, by rw [eA]; exact ⟨pv, XP, tv, XO, hp, ho, st.drop⟩⟩
  have hk35 : o.kind = 3 ∧ tim = none ∨ o.kind = 5 ∧ tim = some o.X := by
    rcases hk with h | h | h
    · exact .inl h
    · exact absurd h.2 h0
    · exact .inr h
  rw [acq2_3 hat h0] at eA
  refine WC.cut (ι := Unit) (fun _ => [(0, .pointer (some ⟨bm, 0, none⟩)), (1, .int .i64 (t : Nat)), (2, .int .i64 (r : Nat)), (7, .pointer (some ⟨b7, 0, none⟩)), (10, .int .i64 (u : Nat))]) (fun _ w' => S0 w0 ((b7, Row 28 5 (nth (opL o))) :: moI bm (mrOf s) pv tv mb :: (XP ++ (XO ++ (mpI mb (odF s) ++ l)))) w') ?_ ?_
  rotate_left
  · intro KC hKC
    rcases hk35 with hk | hk
    · skip
      refine WC.seq fun K3401 hK3401 => ?_
      -- region 14
      refine WC.region ?_
      -- R14.0 115 := model.go:180 fieldAddr
      refine WL.v (by exact r_field ty_fld28_0 rfl) rfl rfl rfl ?_
      -- R14.1 116 := model.go:180 load
      refine WL.v (by exact r_load1 (v := .int .u8 (o.kind : Nat)) ty_one25 rfl (st.c0 (by decide))) rfl rfl rfl ?_
      -- R14.2 117 := model.go:180 binOp
      refine WL.v (by exact r_eql rfl rfl (decide_eq_false (by omega))) rfl rfl rfl ?_
      -- R14.3 118 := model.go:180 move
      refine WL.v (by first | exact r_move (v := .bool _) rfl | exact r_move rfl) rfl rfl rfl ?_
      -- R14.4 119 := model.go:180 fieldAddr
      refine WL.v (by exact r_field ty_fld28_0 rfl) rfl rfl rfl ?_
      -- R14.5 120 := model.go:180 load
      refine WL.v (by exact r_load1 (v := .int .u8 (o.kind : Nat)) ty_one25 rfl (st.c0 (by decide))) rfl rfl rfl ?_
      -- R14.6 121 := model.go:180 binOp
      refine WL.v (by exact r_eql rfl rfl (decide_eq_false (by omega))) rfl rfl rfl ?_
      -- R14.7 122 := model.go:180 move
      refine WL.v (by first | exact r_move (v := .bool _) rfl | exact r_move rfl) rfl rfl rfl ?_
      -- R14.8 123 := model.go:180 fieldAddr
      refine WL.no rfl rfl ?_
      -- R14.9 124 := model.go:180 load
      refine WL.no rfl rfl ?_
      -- R14.10 125 := model.go:180 binOp
      refine WL.no rfl rfl ?_
      -- R14.11 126 := model.go:180 pick
      refine WL.v (by first | exact r_pickT (v := .bool _) rfl rfl | exact r_pickF (v := .bool _) rfl rfl) rfl rfl rfl ?_
      -- R14.12 127 := model.go:180 pick
      refine WL.v (by first | exact r_pickT (v := .bool _) rfl rfl | exact r_pickF (v := .bool _) rfl rfl) rfl rfl rfl ?_
      refine WL.fin hK3401 (fun _ _ h => h) ?_
      refine WC.condF rfl rfl ?_
      refine WC.skipJ hKC (fun _ _ h => h) () st (by repeat (first | exact sub_nil _ | refine sub_cons rfl rfl ?_))
    · have hx0 : o.X ≠ 0 := fun k => h0 (by rw [hk.2, k])
      refine WC.seq fun K3402 hK3402 => ?_
      -- region 14
      refine WC.region ?_
      -- R14.0 115 := model.go:180 fieldAddr
      refine WL.v (by exact r_field ty_fld28_0 rfl) rfl rfl rfl ?_
      -- R14.1 116 := model.go:180 load
      refine WL.v (by exact r_load1 (v := .int .u8 (o.kind : Nat)) ty_one25 rfl (st.c0 (by decide))) rfl rfl rfl ?_
      -- R14.2 117 := model.go:180 binOp
      refine WL.v (by exact r_eql rfl rfl (decide_eq_false (by omega))) rfl rfl rfl ?_
      -- R14.3 118 := model.go:180 move
      refine WL.v (by first | exact r_move (v := .bool _) rfl | exact r_move rfl) rfl rfl rfl ?_
      -- R14.4 119 := model.go:180 fieldAddr
      refine WL.v (by exact r_field ty_fld28_0 rfl) rfl rfl rfl ?_
      -- R14.5 120 := model.go:180 load
      refine WL.v (by exact r_load1 (v := .int .u8 (o.kind : Nat)) ty_one25 rfl (st.c0 (by decide))) rfl rfl rfl ?_
      -- R14.6 121 := model.go:180 binOp
      refine WL.v (by exact r_eql rfl rfl (decide_eq_true (by omega))) rfl rfl rfl ?_
      -- R14.7 122 := model.go:180 move
      refine WL.v (by first | exact r_move (v := .bool _) rfl | exact r_move rfl) rfl rfl rfl ?_
      -- R14.8 123 := model.go:180 fieldAddr
      refine WL.v (by exact r_field ty_fld28_4 rfl) rfl rfl rfl ?_
      -- R14.9 124 := model.go:180 load
      refine WL.v (by exact r_load1 (v := .int .u64 (o.X : Nat)) ty_one26 rfl (st.c0 (by decide))) rfl rfl rfl ?_
      -- R14.10 125 := model.go:180 binOp
      refine WL.v (by exact r_eql rfl rfl (decide_eq_false (by omega))) rfl rfl rfl ?_
      -- R14.11 126 := model.go:180 pick
      refine WL.v (by first | exact r_pickT (v := .bool _) rfl rfl | exact r_pickF (v := .bool _) rfl rfl) rfl rfl rfl ?_
      -- R14.12 127 := model.go:180 pick
      refine WL.v (by first | exact r_pickT (v := .bool _) rfl rfl | exact r_pickF (v := .bool _) rfl rfl) rfl rfl rfl ?_
      refine WL.fin hK3402 (fun _ _ h => h) ?_
      refine WC.condF rfl rfl ?_
      refine WC.skipJ hKC (fun _ _ h => h) () st (by repeat (first | exact sub_nil _ | refine sub_cons rfl rfl ?_))
  clear st
  rintro _ w st
  refine WC.seq fun K3403 hK3403 => ?_
  -- region 16
  refine WC.region ?_
  -- R16.0 11 := model.go:183 assign
  refine WL.v (by first | exact r_assign (v := .slice _ _ _) rfl | exact r_assign rfl) rfl rfl rfl ?_
  -- R16.1 12 := model.go:183 assign
  refine WL.v (by first | exact r_assign (v := .slice _ _ _) rfl | exact r_assign rfl) rfl rfl rfl ?_
  refine WL.fin hK3403 (fun _ _ h => h) ?_
  refine WC.seq fun K3404 hK3404 => ?_
  refine WC.seq fun K3405 hK3405 => ?_
  -- region 17
  refine WC.region ?_
  -- R17.0 13 := model.go:184 assign
  refine WL.v (by first | exact r_assign (v := .int _ _) rfl | exact r_assign rfl) rfl rfl rfl ?_
  refine WL.fin hK3405 (fun _ _ h => h) ?_
  refine WC.block ?_
  refine WC.loop (ι := Nat × Value × List HI × Value × List HI) (fun y => [(0, .pointer (some ⟨bm, 0, none⟩)), (1, .int .i64 (t : Nat)), (2, .int .i64 (r : Nat)), (7, .pointer (some ⟨b7, 0, none⟩)), (10, .int .i64 (u : Nat)), (11, y.2.1), (12, y.2.2.2.1), (13, .int .i64 (y.1 : Nat))])
    (fun y w' => y.1 ≤ 16 ∧ LO 31 1 iE y.2.1 (olL s P t r y.1) y.2.2.1 ∧ LO 31 1 iE y.2.2.2.1 (yoL s P t r y.1) y.2.2.2.2 ∧ S0 w0 (y.2.2.1 ++ (y.2.2.2.2 ++ ((b7, Row 28 5 (nth (opL o))) :: moI bm (mrOf s) pv tv mb :: (XP ++ (XO ++ (mpI mb (odF s) ++ l)))))) w') (fun y => 16 - y.1) (0, .slice none 0 0, [], .slice none 0 0, []) ⟨Nat.zero_le _, LO.nil, LO.nil, st⟩ ?_ ?_
  · skip
    repeat (first | exact sub_nil _ | refine sub_cons rfl rfl ?_)
  clear st
  rintro ⟨k, vO, XL, vY, XM⟩ w ⟨hk16, hlO, hlY, st⟩ K1 hK1
  dsimp only at hk16 hlO hlY st ⊢
  obtain ⟨aO, cO, bO, rfl, hO1, hO2, -, -⟩ := hlO.form
  obtain ⟨aY, cY, bY, rfl, hY1, hY2, haY, hYcell⟩ := hlY.form
  have hlenO : (olL s P t r k).length ≤ k := by have := List.length_filter_le (fun u => rvB s P t r u && decide ((s.tk u).birth < (s.tk t).birth)) (List.range k); rw [List.length_range] at this; exact this
  have hlenY : (yoL s P t r k).length ≤ k := by have := List.length_filter_le (fun u => rvB s P t r u && !decide ((s.tk u).birth < (s.tk t).birth)) (List.range k); rw [List.length_range] at this; exact this
  have hmm2 : moI bm (mrOf s) pv tv mb ∈ XL ++ (XM ++ ((b7, Row 28 5 (nth (opL o))) :: moI bm (mrOf s) pv tv mb :: (XP ++ (XO ++ (mpI mb (odF s) ++ l))))) := List.mem_append_right _ (List.mem_append_right _ hmm')
  have hX2 : XP ⊆ XL ++ (XM ++ ((b7, Row 28 5 (nth (opL o))) :: moI bm (mrOf s) pv tv mb :: (XP ++ (XO ++ (mpI mb (odF s) ++ l))))) := fun x hx => List.mem_append_right _ (hX' XM hx)
  by_cases hke : k = 16
  rotate_left
  · have hk' : k < 16 := by omega
    have eO := olL_succ (s := s) (P := P) (t := t) (r := r) (k := k)
    have eY := yoL_succ (s := s) (P := P) (t := t) (r := r) (k := k)
    rcases busy_or P k with hfree | ⟨i, p, hip, hpt⟩
    · skip
      by_cases hkt : k = t
      · have hrv : rvB s P t r k = false := by unfold rvB; rw [decide_eq_false (fun q => q hkt)]; rfl
        have e1 : olL s P t r (k + 1) = olL s P t r k := by rw [eO, hrv]; exact List.append_nil _
        have e2 : yoL s P t r (k + 1) = yoL s P t r k := by rw [eY, hrv]; exact List.append_nil _
        refine WC.seq fun K3406 hK3406 => ?_
        refine WC.seq fun K3407 hK3407 => ?_
        -- region 18
        refine WC.region ?_
        -- R18.0 128 := model.go:184 move
        refine WL.v (by first | exact r_move (v := .int _ _) rfl | exact r_move rfl) rfl rfl rfl ?_
        -- R18.1 129 := model.go:184 binOp
        refine WL.v (by first | exact r_lss rfl rfl (decide_eq_true (by omega)) | exact r_lss rfl rfl (decide_eq_false (by omega)) | exact r_lss rfl rfl rfl) rfl rfl rfl ?_
        refine WL.fin hK3407 (fun _ _ h => h) ?_
        refine WC.condT rfl rfl ?_
        refine WC.skipF hK3406 (fun _ _ h => h) ?_
        refine WC.seq fun K3408 hK3408 => ?_
        refine WC.block ?_
        refine WC.seq fun K3409 hK3409 => ?_
        -- region 20
        refine WC.region ?_
        -- R20.0 132 := model.go:185 move
        refine WL.v (by first | exact r_move (v := .pointer _) rfl | exact r_move rfl) rfl rfl rfl ?_
        -- R20.1 133 := model.go:185 move
        refine WL.v (by first | exact r_move (v := .int _ _) rfl | exact r_move rfl) rfl rfl rfl ?_
        -- R20.2 134 := model.go:185 call
        refine WL.call (r_call ty_call98 rfl) rfl rfl rfl (pl_none (t := k) hfree hmm2 hp hX2 st) ?_
        rintro _ w ⟨rfl, st⟩
        -- R20.3 14 := model.go:185 assign
        refine WL.v (by first | exact r_assign (v := .int _ _) rfl | exact r_assign rfl) rfl rfl rfl ?_
        refine WL.fin hK3409 (fun _ _ h => h) ?_
        refine WC.seq fun K3410 hK3410 => ?_
        refine WC.seq fun K3411 hK3411 => ?_
        -- region 21
        refine WC.region ?_
        -- R21.0 135 := model.go:186 move
        refine WL.v (by first | exact r_move (v := .int _ _) rfl | exact r_move rfl) rfl rfl rfl ?_
        -- R21.1 136 := model.go:186 move
        refine WL.v (by first | exact r_move (v := .int _ _) rfl | exact r_move rfl) rfl rfl rfl ?_
        -- R21.2 137 := model.go:186 binOp
        refine WL.v (by exact r_eql rfl rfl (decide_eq_true (by omega))) rfl rfl rfl ?_
        -- R21.3 138 := model.go:186 move
        refine WL.v (by first | exact r_move (v := .bool _) rfl | exact r_move rfl) rfl rfl rfl ?_
        -- R21.4 139 := model.go:186 move
        refine WL.no rfl rfl ?_
        -- R21.5 140 := model.go:186 move
        refine WL.no rfl rfl ?_
        -- R21.6 141 := model.go:186 move
        refine WL.no rfl rfl ?_
        -- R21.7 142 := model.go:186 nilCheck
        refine WL.no rfl rfl ?_
        -- R21.8 143 := model.go:186 fieldAddr
        refine WL.no rfl rfl ?_
        -- R21.9 144 := model.go:186 indexAddr
        refine WL.no rfl rfl ?_
        -- R21.10 145 := model.go:186 indexAddr
        refine WL.no rfl rfl ?_
        -- R21.11 146 := model.go:186 load
        refine WL.no rfl rfl ?_
        -- R21.12 147 := model.go:186 binOp
        refine WL.no rfl rfl ?_
        -- R21.13 148 := model.go:186 move
        refine WL.no rfl rfl ?_
        -- R21.14 149 := model.go:186 move
        refine WL.no rfl rfl ?_
        -- R21.15 150 := model.go:186 binOp
        refine WL.no rfl rfl ?_
        -- R21.16 151 := model.go:186 move
        refine WL.no rfl rfl ?_
        -- R21.17 152 := model.go:186 move
        refine WL.no rfl rfl ?_
        -- R21.18 153 := model.go:186 nilCheck
        refine WL.no rfl rfl ?_
        -- R21.19 154 := model.go:186 fieldAddr
        refine WL.no rfl rfl ?_
        -- R21.20 155 := model.go:186 load
        refine WL.no rfl rfl ?_
        -- R21.21 156 := model.go:186 move
        refine WL.no rfl rfl ?_
        -- R21.22 157 := model.go:186 indexAddr
        refine WL.no rfl rfl ?_
        -- R21.23 158 := model.go:186 fieldAddr
        refine WL.no rfl rfl ?_
        -- R21.24 159 := model.go:186 load
        refine WL.no rfl rfl ?_
        -- R21.25 160 := model.go:186 move
        refine WL.no rfl rfl ?_
        -- R21.26 161 := model.go:186 binOp
        refine WL.no rfl rfl ?_
        -- R21.27 162 := model.go:186 pick
        refine WL.no rfl rfl ?_
        -- R21.28 163 := model.go:186 pick
        refine WL.no rfl rfl ?_
        -- R21.29 164 := model.go:186 pick
        refine WL.v (by first | exact r_pickT (v := .bool _) rfl rfl | exact r_pickF (v := .bool _) rfl rfl) rfl rfl rfl ?_
        refine WL.fin hK3411 (fun _ _ h => h) ?_
        refine WC.condT rfl rfl ?_
        refine WC.exitF hK3408 (fun _ _ h => h) ?_
        -- region 19
        refine WC.region ?_
        -- R19.0 130 := model.go:184 move
        refine WL.v (by first | exact r_move (v := .int _ _) rfl | exact r_move rfl) rfl rfl rfl ?_
        -- R19.1 131 := model.go:184 binOp
        refine WL.v (by first | exact r_add rfl rfl (wi64 (by omega) (by omega)) | exact r_add rfl rfl rfl) rfl rfl rfl ?_
        -- R19.2 13 := model.go:184 assign
        refine WL.v (by first | exact r_assign (v := .int _ _) rfl | exact r_assign rfl) rfl rfl rfl ?_
        refine WL.next hK1 (fun _ _ h => h) (k + 1, _, XL, _, XM) ⟨hk', by rw [e1]; exact hlO, by rw [e2]; exact hlY, st⟩ (by show 16 - (k + 1) < 16 - k; omega) (by repeat (first | exact sub_nil _ | refine sub_cons rfl rfl ?_))
      by_cases hh0 : s.held k r = 0
      · have hrv : rvB s P t r k = false := by
          unfold rvB
          rw [decide_eq_false (p := s.held k r ≠ 0) (fun q => q hh0), List.any_eq_false.2 fun q hq => by simpa using fun e => absurd e (hfree q hq)]
          simp
        have e1 : olL s P t r (k + 1) = olL s P t r k := by rw [eO, hrv]; exact List.append_nil _
        have e2 : yoL s P t r (k + 1) = yoL s P t r k := by rw [eY, hrv]; exact List.append_nil _
        refine WC.seq fun K3412 hK3412 => ?_
        refine WC.seq fun K3413 hK3413 => ?_
        -- region 18
        refine WC.region ?_
        -- R18.0 128 := model.go:184 move
        refine WL.v (by first | exact r_move (v := .int _ _) rfl | exact r_move rfl) rfl rfl rfl ?_
        -- R18.1 129 := model.go:184 binOp
        refine WL.v (by first | exact r_lss rfl rfl (decide_eq_true (by omega)) | exact r_lss rfl rfl (decide_eq_false (by omega)) | exact r_lss rfl rfl rfl) rfl rfl rfl ?_
        refine WL.fin hK3413 (fun _ _ h => h) ?_
        refine WC.condT rfl rfl ?_
        refine WC.skipF hK3412 (fun _ _ h => h) ?_
        refine WC.seq fun K3414 hK3414 => ?_
        refine WC.block ?_
        refine WC.seq fun K3415 hK3415 => ?_
        -- region 20
        refine WC.region ?_
        -- R20.0 132 := model.go:185 move
        refine WL.v (by first | exact r_move (v := .pointer _) rfl | exact r_move rfl) rfl rfl rfl ?_
        -- R20.1 133 := model.go:185 move
        refine WL.v (by first | exact r_move (v := .int _ _) rfl | exact r_move rfl) rfl rfl rfl ?_
        -- R20.2 134 := model.go:185 call
        refine WL.call (r_call ty_call98 rfl) rfl rfl rfl (pl_none (t := k) hfree hmm2 hp hX2 st) ?_
        rintro _ w ⟨rfl, st⟩
        -- R20.3 14 := model.go:185 assign
        refine WL.v (by first | exact r_assign (v := .int _ _) rfl | exact r_assign rfl) rfl rfl rfl ?_
        refine WL.fin hK3415 (fun _ _ h => h) ?_
        refine WC.seq fun K3416 hK3416 => ?_
        refine WC.seq fun K3417 hK3417 => ?_
        -- region 21
        refine WC.region ?_
        -- R21.0 135 := model.go:186 move
        refine WL.v (by first | exact r_move (v := .int _ _) rfl | exact r_move rfl) rfl rfl rfl ?_
        -- R21.1 136 := model.go:186 move
        refine WL.v (by first | exact r_move (v := .int _ _) rfl | exact r_move rfl) rfl rfl rfl ?_
        -- R21.2 137 := model.go:186 binOp
        refine WL.v (by exact r_eql rfl rfl (decide_eq_false (by omega))) rfl rfl rfl ?_
        -- R21.3 138 := model.go:186 move
        refine WL.v (by first | exact r_move (v := .bool _) rfl | exact r_move rfl) rfl rfl rfl ?_
        -- R21.4 139 := model.go:186 move
        refine WL.v (by first | exact r_move (v := .pointer _) rfl | exact r_move rfl) rfl rfl rfl ?_
        -- R21.5 140 := model.go:186 move
        refine WL.v (by first | exact r_move (v := .int _ _) rfl | exact r_move rfl) rfl rfl rfl ?_
        -- R21.6 141 := model.go:186 move
        refine WL.v (by first | exact r_move (v := .int _ _) rfl | exact r_move rfl) rfl rfl rfl ?_
        -- R21.7 142 := model.go:186 nilCheck
        refine WL.v (by exact r_nilCheck rfl) rfl rfl rfl ?_
        -- R21.8 143 := model.go:186 fieldAddr
        refine WL.v (by exact r_field ty_fld98_7 rfl) rfl rfl rfl ?_
        -- R21.9 144 := model.go:186 indexAddr
        refine WL.v (by exact r_indexA (j := k) ty_ar45 rfl rfl rfl hk') rfl rfl rfl ?_
        -- R21.10 145 := model.go:186 indexAddr
        refine WL.v (by exact r_indexA (j := r) ty_ar44 rfl rfl rfl hr) rfl rfl rfl ?_
        -- R21.11 146 := model.go:186 load
        refine WL.v (by exact r_load1 (v := .int .i64 (s.held k r : Nat)) ty_one3 rfl (c_mheld (m := mrOf s) hmm2 hk' hr (by omega) st)) rfl rfl rfl ?_
        -- R21.12 147 := model.go:186 binOp
        refine WL.v (by exact r_eql rfl rfl (decide_eq_true (by omega))) rfl rfl rfl ?_
        -- R21.13 148 := model.go:186 move
        refine WL.v (by first | exact r_move (v := .bool _) rfl | exact r_move rfl) rfl rfl rfl ?_
        -- R21.14 149 := model.go:186 move
        refine WL.v (by first | exact r_move (v := .int _ _) rfl | exact r_move rfl) rfl rfl rfl ?_
        -- R21.15 150 := model.go:186 binOp
        refine WL.v (by first | exact r_lss rfl rfl (decide_eq_true (by omega)) | exact r_lss rfl rfl (decide_eq_false (by omega)) | exact r_lss rfl rfl rfl) rfl rfl rfl ?_
        -- R21.16 151 := model.go:186 move
        refine WL.v (by first | exact r_move (v := .bool _) rfl | exact r_move rfl) rfl rfl rfl ?_
        -- R21.17 152 := model.go:186 move
        refine WL.no rfl rfl ?_
        -- R21.18 153 := model.go:186 nilCheck
        refine WL.no rfl rfl ?_
        -- R21.19 154 := model.go:186 fieldAddr
        refine WL.no rfl rfl ?_
        -- R21.20 155 := model.go:186 load
        refine WL.no rfl rfl ?_
        -- R21.21 156 := model.go:186 move
        refine WL.no rfl rfl ?_
        -- R21.22 157 := model.go:186 indexAddr
        refine WL.no rfl rfl ?_
        -- R21.23 158 := model.go:186 fieldAddr
        refine WL.no rfl rfl ?_
        -- R21.24 159 := model.go:186 load
        refine WL.no rfl rfl ?_
        -- R21.25 160 := model.go:186 move
        refine WL.no rfl rfl ?_
        -- R21.26 161 := model.go:186 binOp
        refine WL.no rfl rfl ?_
        -- R21.27 162 := model.go:186 pick
        refine WL.v (by first | exact r_pickT (v := .bool _) rfl rfl | exact r_pickF (v := .bool _) rfl rfl) rfl rfl rfl ?_
        -- R21.28 163 := model.go:186 pick
        refine WL.v (by first | exact r_pickT (v := .bool _) rfl rfl | exact r_pickF (v := .bool _) rfl rfl) rfl rfl rfl ?_
        -- R21.29 164 := model.go:186 pick
        refine WL.v (by first | exact r_pickT (v := .bool _) rfl rfl | exact r_pickF (v := .bool _) rfl rfl) rfl rfl rfl ?_
        refine WL.fin hK3417 (fun _ _ h => h) ?_
        refine WC.condT rfl rfl ?_
        refine WC.exitF hK3414 (fun _ _ h => h) ?_
        -- region 19
        refine WC.region ?_
        -- R19.0 130 := model.go:184 move
        refine WL.v (by first | exact r_move (v := .int _ _) rfl | exact r_move rfl) rfl rfl rfl ?_
        -- R19.1 131 := model.go:184 binOp
        refine WL.v (by first | exact r_add rfl rfl (wi64 (by omega) (by omega)) | exact r_add rfl rfl rfl) rfl rfl rfl ?_
        -- R19.2 13 := model.go:184 assign
        refine WL.v (by first | exact r_assign (v := .int _ _) rfl | exact r_assign rfl) rfl rfl rfl ?_
        refine WL.next hK1 (fun _ _ h => h) (k + 1, _, XL, _, XM) ⟨hk', by rw [e1]; exact hlO, by rw [e2]; exact hlY, st⟩ (by show 16 - (k + 1) < 16 - k; omega) (by repeat (first | exact sub_nil _ | refine sub_cons rfl rfl ?_))
      · have hrv : rvB s P t r k = true := by unfold rvB; rw [decide_eq_true hkt, decide_eq_true hh0]; rfl
        by_cases hold : (s.tk k).birth < (s.tk t).birth
        · have e1 : olL s P t r (k + 1) = olL s P t r k ++ [k] := by rw [eO, hrv, decide_eq_true hold]; rfl
          have e2 : yoL s P t r (k + 1) = yoL s P t r k := by rw [eY, hrv, decide_eq_true hold]; exact List.append_nil _
          refine WC.seq fun K3418 hK3418 => ?_
          refine WC.seq fun K3419 hK3419 => ?_
          -- region 18
          refine WC.region ?_
          -- R18.0 128 := model.go:184 move
          refine WL.v (by first | exact r_move (v := .int _ _) rfl | exact r_move rfl) rfl rfl rfl ?_
          -- R18.1 129 := model.go:184 binOp
          refine WL.v (by first | exact r_lss rfl rfl (decide_eq_true (by omega)) | exact r_lss rfl rfl (decide_eq_false (by omega)) | exact r_lss rfl rfl rfl) rfl rfl rfl ?_
          refine WL.fin hK3419 (fun _ _ h => h) ?_
          refine WC.condT rfl rfl ?_
          refine WC.skipF hK3418 (fun _ _ h => h) ?_
          refine WC.seq fun K3420 hK3420 => ?_
          refine WC.block ?_
          refine WC.seq fun K3421 hK3421 => ?_
          -- region 20
          refine WC.region ?_
          -- R20.0 132 := model.go:185 move
          refine WL.v (by first | exact r_move (v := .pointer _) rfl | exact r_move rfl) rfl rfl rfl ?_
          -- R20.1 133 := model.go:185 move
          refine WL.v (by first | exact r_move (v := .int _ _) rfl | exact r_move rfl) rfl rfl rfl ?_
          -- R20.2 134 := model.go:185 call
          refine WL.call (r_call ty_call98 rfl) rfl rfl rfl (pl_none (t := k) hfree hmm2 hp hX2 st) ?_
          rintro _ w ⟨rfl, st⟩
          -- R20.3 14 := model.go:185 assign
          refine WL.v (by first | exact r_assign (v := .int _ _) rfl | exact r_assign rfl) rfl rfl rfl ?_
          refine WL.fin hK3421 (fun _ _ h => h) ?_
          refine WC.seq fun K3422 hK3422 => ?_
          refine WC.seq fun K3423 hK3423 => ?_
          -- region 21
          refine WC.region ?_
          -- R21.0 135 := model.go:186 move
          refine WL.v (by first | exact r_move (v := .int _ _) rfl | exact r_move rfl) rfl rfl rfl ?_
          -- R21.1 136 := model.go:186 move
          refine WL.v (by first | exact r_move (v := .int _ _) rfl | exact r_move rfl) rfl rfl rfl ?_
          -- R21.2 137 := model.go:186 binOp
          refine WL.v (by exact r_eql rfl rfl (decide_eq_false (by omega))) rfl rfl rfl ?_
          -- R21.3 138 := model.go:186 move
          refine WL.v (by first | exact r_move (v := .bool _) rfl | exact r_move rfl) rfl rfl rfl ?_
          -- R21.4 139 := model.go:186 move
          refine WL.v (by first | exact r_move (v := .pointer _) rfl | exact r_move rfl) rfl rfl rfl ?_
          -- R21.5 140 := model.go:186 move
          refine WL.v (by first | exact r_move (v := .int _ _) rfl | exact r_move rfl) rfl rfl rfl ?_
          -- R21.6 141 := model.go:186 move
          refine WL.v (by first | exact r_move (v := .int _ _) rfl | exact r_move rfl) rfl rfl rfl ?_
          -- R21.7 142 := model.go:186 nilCheck
          refine WL.v (by exact r_nilCheck rfl) rfl rfl rfl ?_
          -- R21.8 143 := model.go:186 fieldAddr
          refine WL.v (by exact r_field ty_fld98_7 rfl) rfl rfl rfl ?_
          -- R21.9 144 := model.go:186 indexAddr
          refine WL.v (by exact r_indexA (j := k) ty_ar45 rfl rfl rfl hk') rfl rfl rfl ?_
          -- R21.10 145 := model.go:186 indexAddr
          refine WL.v (by exact r_indexA (j := r) ty_ar44 rfl rfl rfl hr) rfl rfl rfl ?_
          -- R21.11 146 := model.go:186 load
          refine WL.v (by exact r_load1 (v := .int .i64 (s.held k r : Nat)) ty_one3 rfl (c_mheld (m := mrOf s) hmm2 hk' hr (by omega) st)) rfl rfl rfl ?_
          -- R21.12 147 := model.go:186 binOp
          refine WL.v (by exact r_eql rfl rfl (decide_eq_false (by omega))) rfl rfl rfl ?_
          -- R21.13 148 := model.go:186 move
          refine WL.v (by first | exact r_move (v := .bool _) rfl | exact r_move rfl) rfl rfl rfl ?_
          -- R21.14 149 := model.go:186 move
          refine WL.no rfl rfl ?_
          -- R21.15 150 := model.go:186 binOp
          refine WL.no rfl rfl ?_
          -- R21.16 151 := model.go:186 move
          refine WL.no rfl rfl ?_
          -- R21.17 152 := model.go:186 move
          refine WL.no rfl rfl ?_
          -- R21.18 153 := model.go:186 nilCheck
          refine WL.no rfl rfl ?_
          -- R21.19 154 := model.go:186 fieldAddr
          refine WL.no rfl rfl ?_
          -- R21.20 155 := model.go:186 load
          refine WL.no rfl rfl ?_
          -- R21.21 156 := model.go:186 move
          refine WL.no rfl rfl ?_
          -- R21.22 157 := model.go:186 indexAddr
          refine WL.no rfl rfl ?_
          -- R21.23 158 := model.go:186 fieldAddr
          refine WL.no rfl rfl ?_
          -- R21.24 159 := model.go:186 load
          refine WL.no rfl rfl ?_
          -- R21.25 160 := model.go:186 move
          refine WL.no rfl rfl ?_
          -- R21.26 161 := model.go:186 binOp
          refine WL.no rfl rfl ?_
          -- R21.27 162 := model.go:186 pick
          refine WL.no rfl rfl ?_
          -- R21.28 163 := model.go:186 pick
          refine WL.v (by first | exact r_pickT (v := .bool _) rfl rfl | exact r_pickF (v := .bool _) rfl rfl) rfl rfl rfl ?_
          -- R21.29 164 := model.go:186 pick
          refine WL.v (by first | exact r_pickT (v := .bool _) rfl rfl | exact r_pickF (v := .bool _) rfl rfl) rfl rfl rfl ?_
          refine WL.fin hK3423 (fun _ _ h => h) ?_
          refine WC.condF rfl rfl ?_
          refine WC.skipF hK3422 (fun _ _ h => h) ?_
          refine WC.seq fun K3424 hK3424 => ?_
          -- region 22 (draws)
          refine WC.quietS st ty_mixed (by kernel_rfl) fun Kq hKq => ?_
          -- R22.0 165 := model.go:189 move
          refine QL.v (fun w st => by first | exact r_move (v := .pointer _) rfl | exact r_move rfl) rfl rfl rfl ?_
          -- R22.1 166 := model.go:189 move
          refine QL.v (fun w st => by first | exact r_move (v := .int _ _) rfl | exact r_move rfl) rfl rfl rfl ?_
          -- R22.2 167 := model.go:189 nilCheck
          refine QL.v (fun w st => by exact r_nilCheck rfl) rfl rfl rfl ?_
          -- R22.3 168 := model.go:189 fieldAddr
          refine QL.v (fun w st => by exact r_field ty_fld98_5 rfl) rfl rfl rfl ?_
          -- R22.4 169 := model.go:189 indexAddr
          refine QL.v (fun w st => by exact r_indexA (j := k) ty_ar81 rfl rfl rfl hk') rfl rfl rfl ?_
          -- R22.5 170 := model.go:189 load
          refine QL.v (fun w st => by exact r_load1 (v := .int .u64 ((s.tk k).birth : Nat)) ty_one26 rfl (c_mbirth (m := mrOf s) hmm2 hk' (by omega) st)) rfl rfl rfl ?_
          -- R22.6 171 := model.go:189 move
          refine QL.v (fun w st => by first | exact r_move (v := .pointer _) rfl | exact r_move rfl) rfl rfl rfl ?_
          -- R22.7 172 := model.go:189 move
          refine QL.v (fun w st => by first | exact r_move (v := .int _ _) rfl | exact r_move rfl) rfl rfl rfl ?_
          -- R22.8 173 := model.go:189 nilCheck
          refine QL.v (fun w st => by exact r_nilCheck rfl) rfl rfl rfl ?_
          -- R22.9 174 := model.go:189 fieldAddr
          refine QL.v (fun w st => by exact r_field ty_fld98_5 rfl) rfl rfl rfl ?_
          -- R22.10 175 := model.go:189 indexAddr
          refine QL.v (fun w st => by exact r_indexA (j := t) ty_ar81 rfl rfl rfl ht) rfl rfl rfl ?_
          -- R22.11 176 := model.go:189 load
          refine QL.v (fun w st => by exact r_load1 (v := .int .u64 ((s.tk t).birth : Nat)) ty_one26 rfl (c_mbirth (m := mrOf s) hmm2 ht (by omega) st)) rfl rfl rfl ?_
          -- R22.12 177 := model.go:189 binOp
          refine QL.v (fun w st => by exact r_lss rfl rfl (decide_eq_true (by omega))) rfl rfl rfl ?_
          refine QL.wl hKq fun w st => ?_
          refine WL.fin hK3424 (fun _ _ h => h) ?_
          refine WC.condT rfl rfl ?_
          -- region 23
          refine WC.region ?_
          -- R23.0 178 := model.go:190 move
          refine WL.v (by first | exact r_move (v := .slice _ _ _) rfl | exact r_move rfl) rfl rfl rfl ?_
          -- R23.1 179 := model.go:190 move
          refine WL.v (by first | exact r_move (v := .int _ _) rfl | exact r_move rfl) rfl rfl rfl ?_
          -- R23.2 180 := model.go:190 buildSlice
          first | refine WL.mkslice (m := 1) (vs := [.int _ _]) st ty_sl54 ty_zero31 rfl rfl rfl rfl rfl rfl ?_ | refine WL.mkslice (m := 1) (vs := [_]) st ty_sl54 ty_zero31 rfl rfl rfl rfl rfl rfl ?_ | refine WL.mkslice st ty_sl54 ty_zero31 rfl rfl rfl rfl rfl rfl ?_
          intro b180 w st
          -- R23.3 181 := model.go:190 call
          have c0 : ∀ j, j < 1 → w.cell? ⟨b180, 0 + j, none⟩ = some (iE k j) := fun j hj => by rw [st.c0 (by omega), show 0 + j = 0 by omega]; rfl
          have st : S0 w0 (XL ++ ((b180, Row 31 1 (nth [.int .i64 (k : Nat)])) :: (XM ++ ((b7, Row 28 5 (nth (opL o))) :: moI bm (mrOf s) pv tv mb :: (XP ++ (XO ++ (mpI mb (odF s) ++ l))))))) w := st.perm (by classical exact List.perm_iff_count.2 fun x => by simp only [List.count_append, List.count_cons, List.count_nil, List.append_eq, List.cons_append, List.nil_append, List.append_assoc, Nat.add_zero, Nat.zero_add] <;> ac_rfl)
          refine WL.appL (bx := b180) (ox := 0) (a := k) hlO st ty_mk54 ty_zero31 rfl (by decide) rfl rfl c0 iE_one (by omega) (by omega) rfl rfl rfl ?_
          intro v' X' w hl' st
          have st : S0 w0 (X' ++ (XM ++ ((b7, Row 28 5 (nth (opL o))) :: moI bm (mrOf s) pv tv mb :: (XP ++ (XO ++ (mpI mb (odF s) ++ l)))))) w := (st.perm (by classical exact List.perm_iff_count.2 fun x => by simp only [List.count_append, List.count_cons, List.count_nil, List.append_eq, List.cons_append, List.nil_append, List.append_assoc, Nat.add_zero, Nat.zero_add] <;> ac_rfl) : S0 w0 ((b180, Row 31 1 (nth [.int .i64 (k : Nat)])) :: (X' ++ (XM ++ ((b7, Row 28 5 (nth (opL o))) :: moI bm (mrOf s) pv tv mb :: (XP ++ (XO ++ (mpI mb (odF s) ++ l))))))) w).drop
          obtain ⟨a', c', b', rfl, -, -, -, -⟩ := hl'.form
          -- R23.4 11 := model.go:190 assign
          refine WL.v (by first | exact r_assign (v := .slice _ _ _) rfl | exact r_assign rfl) rfl rfl rfl ?_
          refine WL.fin hK3420 (fun _ _ h => h) ?_
          -- region 19
          refine WC.region ?_
          -- R19.0 130 := model.go:184 move
          refine WL.v (by first | exact r_move (v := .int _ _) rfl | exact r_move rfl) rfl rfl rfl ?_
          -- R19.1 131 := model.go:184 binOp
          refine WL.v (by first | exact r_add rfl rfl (wi64 (by omega) (by omega)) | exact r_add rfl rfl rfl) rfl rfl rfl ?_
          -- R19.2 13 := model.go:184 assign
          refine WL.v (by first | exact r_assign (v := .int _ _) rfl | exact r_assign rfl) rfl rfl rfl ?_
          refine WL.next hK1 (fun _ _ h => h) (k + 1, _, X', _, XM) ⟨hk', by rw [e1]; exact hl', by rw [e2]; exact hlY, st⟩ (by show 16 - (k + 1) < 16 - k; omega) (by repeat (first | exact sub_nil _ | refine sub_cons rfl rfl ?_))
        · have e1 : olL s P t r (k + 1) = olL s P t r k := by rw [eO, hrv, decide_eq_false hold]; exact List.append_nil _
          have e2 : yoL s P t r (k + 1) = yoL s P t r k ++ [k] := by rw [eY, hrv, decide_eq_false hold]; rfl
          refine WC.seq fun K3425 hK3425 => ?_
          refine WC.seq fun K3426 hK3426 => ?_
          -- region 18
          refine WC.region ?_
          -- R18.0 128 := model.go:184 move
          refine WL.v (by first | exact r_move (v := .int _ _) rfl | exact r_move rfl) rfl rfl rfl ?_
          -- R18.1 129 := model.go:184 binOp
          refine WL.v (by first | exact r_lss rfl rfl (decide_eq_true (by omega)) | exact r_lss rfl rfl (decide_eq_false (by omega)) | exact r_lss rfl rfl rfl) rfl rfl rfl ?_
          refine WL.fin hK3426 (fun _ _ h => h) ?_
          refine WC.condT rfl rfl ?_
          refine WC.skipF hK3425 (fun _ _ h => h) ?_
          refine WC.seq fun K3427 hK3427 => ?_
          refine WC.block ?_
          refine WC.seq fun K3428 hK3428 => ?_
          -- region 20
          refine WC.region ?_
          -- R20.0 132 := model.go:185 move
          refine WL.v (by first | exact r_move (v := .pointer _) rfl | exact r_move rfl) rfl rfl rfl ?_
          -- R20.1 133 := model.go:185 move
          refine WL.v (by first | exact r_move (v := .int _ _) rfl | exact r_move rfl) rfl rfl rfl ?_
          -- R20.2 134 := model.go:185 call
          refine WL.call (r_call ty_call98 rfl) rfl rfl rfl (pl_none (t := k) hfree hmm2 hp hX2 st) ?_
          rintro _ w ⟨rfl, st⟩
          -- R20.3 14 := model.go:185 assign
          refine WL.v (by first | exact r_assign (v := .int _ _) rfl | exact r_assign rfl) rfl rfl rfl ?_
          refine WL.fin hK3428 (fun _ _ h => h) ?_
          refine WC.seq fun K3429 hK3429 => ?_
          refine WC.seq fun K3430 hK3430 => ?_
          -- region 21
          refine WC.region ?_
          -- R21.0 135 := model.go:186 move
          refine WL.v (by first | exact r_move (v := .int _ _) rfl | exact r_move rfl) rfl rfl rfl ?_
          -- R21.1 136 := model.go:186 move
          refine WL.v (by first | exact r_move (v := .int _ _) rfl | exact r_move rfl) rfl rfl rfl ?_
          -- R21.2 137 := model.go:186 binOp
          refine WL.v (by exact r_eql rfl rfl (decide_eq_false (by omega))) rfl rfl rfl ?_
          -- R21.3 138 := model.go:186 move
          refine WL.v (by first | exact r_move (v := .bool _) rfl | exact r_move rfl) rfl rfl rfl ?_
          -- R21.4 139 := model.go:186 move
          refine WL.v (by first | exact r_move (v := .pointer _) rfl | exact r_move rfl) rfl rfl rfl ?_
          -- R21.5 140 := model.go:186 move
          refine WL.v (by first | exact r_move (v := .int _ _) rfl | exact r_move rfl) rfl rfl rfl ?_
          -- R21.6 141 := model.go:186 move
          refine WL.v (by first | exact r_move (v := .int _ _) rfl | exact r_move rfl) rfl rfl rfl ?_
          -- R21.7 142 := model.go:186 nilCheck
          refine WL.v (by exact r_nilCheck rfl) rfl rfl rfl ?_
          -- R21.8 143 := model.go:186 fieldAddr
          refine WL.v (by exact r_field ty_fld98_7 rfl) rfl rfl rfl ?_
          -- R21.9 144 := model.go:186 indexAddr
          refine WL.v (by exact r_indexA (j := k) ty_ar45 rfl rfl rfl hk') rfl rfl rfl ?_
          -- R21.10 145 := model.go:186 indexAddr
          refine WL.v (by exact r_indexA (j := r) ty_ar44 rfl rfl rfl hr) rfl rfl rfl ?_
          -- R21.11 146 := model.go:186 load
          refine WL.v (by exact r_load1 (v := .int .i64 (s.held k r : Nat)) ty_one3 rfl (c_mheld (m := mrOf s) hmm2 hk' hr (by omega) st)) rfl rfl rfl ?_
          -- R21.12 147 := model.go:186 binOp
          refine WL.v (by exact r_eql rfl rfl (decide_eq_false (by omega))) rfl rfl rfl ?_
          -- R21.13 148 := model.go:186 move
          refine WL.v (by first | exact r_move (v := .bool _) rfl | exact r_move rfl) rfl rfl rfl ?_
          -- R21.14 149 := model.go:186 move
          refine WL.no rfl rfl ?_
          -- R21.15 150 := model.go:186 binOp
          refine WL.no rfl rfl ?_
          -- R21.16 151 := model.go:186 move
          refine WL.no rfl rfl ?_
          -- R21.17 152 := model.go:186 move
          refine WL.no rfl rfl ?_
          -- R21.18 153 := model.go:186 nilCheck
          refine WL.no rfl rfl ?_
          -- R21.19 154 := model.go:186 fieldAddr
          refine WL.no rfl rfl ?_
          -- R21.20 155 := model.go:186 load
          refine WL.no rfl rfl ?_
          -- R21.21 156 := model.go:186 move
          refine WL.no rfl rfl ?_
          -- R21.22 157 := model.go:186 indexAddr
          refine WL.no rfl rfl ?_
          -- R21.23 158 := model.go:186 fieldAddr
          refine WL.no rfl rfl ?_
          -- R21.24 159 := model.go:186 load
          refine WL.no rfl rfl ?_
          -- R21.25 160 := model.go:186 move
          refine WL.no rfl rfl ?_
          -- R21.26 161 := model.go:186 binOp
          refine WL.no rfl rfl ?_
          -- R21.27 162 := model.go:186 pick
          refine WL.no rfl rfl ?_
          -- R21.28 163 := model.go:186 pick
          refine WL.v (by first | exact r_pickT (v := .bool _) rfl rfl | exact r_pickF (v := .bool _) rfl rfl) rfl rfl rfl ?_
          -- R21.29 164 := model.go:186 pick
          refine WL.v (by first | exact r_pickT (v := .bool _) rfl rfl | exact r_pickF (v := .bool _) rfl rfl) rfl rfl rfl ?_
          refine WL.fin hK3430 (fun _ _ h => h) ?_
          refine WC.condF rfl rfl ?_
          refine WC.skipF hK3429 (fun _ _ h => h) ?_
          refine WC.seq fun K3431 hK3431 => ?_
          -- region 22 (draws)
          refine WC.quietS st ty_mixed (by kernel_rfl) fun Kq hKq => ?_
          -- R22.0 165 := model.go:189 move
          refine QL.v (fun w st => by first | exact r_move (v := .pointer _) rfl | exact r_move rfl) rfl rfl rfl ?_
          -- R22.1 166 := model.go:189 move
          refine QL.v (fun w st => by first | exact r_move (v := .int _ _) rfl | exact r_move rfl) rfl rfl rfl ?_
          -- R22.2 167 := model.go:189 nilCheck
          refine QL.v (fun w st => by exact r_nilCheck rfl) rfl rfl rfl ?_
          -- R22.3 168 := model.go:189 fieldAddr
          refine QL.v (fun w st => by exact r_field ty_fld98_5 rfl) rfl rfl rfl ?_
          -- R22.4 169 := model.go:189 indexAddr
          refine QL.v (fun w st => by exact r_indexA (j := k) ty_ar81 rfl rfl rfl hk') rfl rfl rfl ?_
          -- R22.5 170 := model.go:189 load
          refine QL.v (fun w st => by exact r_load1 (v := .int .u64 ((s.tk k).birth : Nat)) ty_one26 rfl (c_mbirth (m := mrOf s) hmm2 hk' (by omega) st)) rfl rfl rfl ?_
          -- R22.6 171 := model.go:189 move
          refine QL.v (fun w st => by first | exact r_move (v := .pointer _) rfl | exact r_move rfl) rfl rfl rfl ?_
          -- R22.7 172 := model.go:189 move
          refine QL.v (fun w st => by first | exact r_move (v := .int _ _) rfl | exact r_move rfl) rfl rfl rfl ?_
          -- R22.8 173 := model.go:189 nilCheck
          refine QL.v (fun w st => by exact r_nilCheck rfl) rfl rfl rfl ?_
          -- R22.9 174 := model.go:189 fieldAddr
          refine QL.v (fun w st => by exact r_field ty_fld98_5 rfl) rfl rfl rfl ?_
          -- R22.10 175 := model.go:189 indexAddr
          refine QL.v (fun w st => by exact r_indexA (j := t) ty_ar81 rfl rfl rfl ht) rfl rfl rfl ?_
          -- R22.11 176 := model.go:189 load
          refine QL.v (fun w st => by exact r_load1 (v := .int .u64 ((s.tk t).birth : Nat)) ty_one26 rfl (c_mbirth (m := mrOf s) hmm2 ht (by omega) st)) rfl rfl rfl ?_
          -- R22.12 177 := model.go:189 binOp
          refine QL.v (fun w st => by exact r_lss rfl rfl (decide_eq_false (by omega))) rfl rfl rfl ?_
          refine QL.wl hKq fun w st => ?_
          refine WL.fin hK3431 (fun _ _ h => h) ?_
          refine WC.condF rfl rfl ?_
          -- region 24
          refine WC.region ?_
          -- R24.0 182 := model.go:192 move
          refine WL.v (by first | exact r_move (v := .slice _ _ _) rfl | exact r_move rfl) rfl rfl rfl ?_
          -- R24.1 183 := model.go:192 move
          refine WL.v (by first | exact r_move (v := .int _ _) rfl | exact r_move rfl) rfl rfl rfl ?_
          -- R24.2 184 := model.go:192 buildSlice
          first | refine WL.mkslice (m := 1) (vs := [.int _ _]) st ty_sl54 ty_zero31 rfl rfl rfl rfl rfl rfl ?_ | refine WL.mkslice (m := 1) (vs := [_]) st ty_sl54 ty_zero31 rfl rfl rfl rfl rfl rfl ?_ | refine WL.mkslice st ty_sl54 ty_zero31 rfl rfl rfl rfl rfl rfl ?_
          intro b184 w st
          -- R24.3 185 := model.go:192 call
          have c0 : ∀ j, j < 1 → w.cell? ⟨b184, 0 + j, none⟩ = some (iE k j) := fun j hj => by rw [st.c0 (by omega), show 0 + j = 0 by omega]; rfl
          have st : S0 w0 (XM ++ ((b184, Row 31 1 (nth [.int .i64 (k : Nat)])) :: (XL ++ ((b7, Row 28 5 (nth (opL o))) :: moI bm (mrOf s) pv tv mb :: (XP ++ (XO ++ (mpI mb (odF s) ++ l))))))) w := st.perm (by classical exact List.perm_iff_count.2 fun x => by simp only [List.count_append, List.count_cons, List.count_nil, List.append_eq, List.cons_append, List.nil_append, List.append_assoc, Nat.add_zero, Nat.zero_add] <;> ac_rfl)
          refine WL.appL (bx := b184) (ox := 0) (a := k) hlY st ty_mk54 ty_zero31 rfl (by decide) rfl rfl c0 iE_one (by omega) (by omega) rfl rfl rfl ?_
          intro v' X' w hl' st
          have st : S0 w0 (XL ++ (X' ++ ((b7, Row 28 5 (nth (opL o))) :: moI bm (mrOf s) pv tv mb :: (XP ++ (XO ++ (mpI mb (odF s) ++ l)))))) w := (st.perm (by classical exact List.perm_iff_count.2 fun x => by simp only [List.count_append, List.count_cons, List.count_nil, List.append_eq, List.cons_append, List.nil_append, List.append_assoc, Nat.add_zero, Nat.zero_add] <;> ac_rfl) : S0 w0 ((b184, Row 31 1 (nth [.int .i64 (k : Nat)])) :: (XL ++ (X' ++ ((b7, Row 28 5 (nth (opL o))) :: moI bm (mrOf s) pv tv mb :: (XP ++ (XO ++ (mpI mb (odF s) ++ l))))))) w).drop
          obtain ⟨a', c', b', rfl, -, -, -, -⟩ := hl'.form
          -- R24.4 12 := model.go:192 assign
          refine WL.v (by first | exact r_assign (v := .slice _ _ _) rfl | exact r_assign rfl) rfl rfl rfl ?_
          refine WL.fin hK3427 (fun _ _ h => h) ?_
          -- region 19
          refine WC.region ?_
          -- R19.0 130 := model.go:184 move
          refine WL.v (by first | exact r_move (v := .int _ _) rfl | exact r_move rfl) rfl rfl rfl ?_
          -- R19.1 131 := model.go:184 binOp
          refine WL.v (by first | exact r_add rfl rfl (wi64 (by omega) (by omega)) | exact r_add rfl rfl rfl) rfl rfl rfl ?_
          -- R19.2 13 := model.go:184 assign
          refine WL.v (by first | exact r_assign (v := .int _ _) rfl | exact r_assign rfl) rfl rfl rfl ?_
          refine WL.next hK1 (fun _ _ h => h) (k + 1, _, XL, _, X') ⟨hk', by rw [e1]; exact hlO, by rw [e2]; exact hl', st⟩ (by show 16 - (k + 1) < 16 - k; omega) (by repeat (first | exact sub_nil _ | refine sub_cons rfl rfl ?_))
    have hil : i < P.length := (List.getElem?_eq_some_iff.1 hip).1
    have hpm := List.mem_of_getElem? hip
    have hp20 := (hrel.l p hpm).2
    obtain ⟨a, c, b, hpv, hc1, hc2, ha, hcell⟩ := hp.form
    obtain rfl := ha (by omega)
    by_cases hkt : k = t
    · have hrv : rvB s P t r k = false := by unfold rvB; rw [decide_eq_false (fun q => q hkt)]; rfl
      have e1 : olL s P t r (k + 1) = olL s P t r k := by rw [eO, hrv]; exact List.append_nil _
      have e2 : yoL s P t r (k + 1) = yoL s P t r k := by rw [eY, hrv]; exact List.append_nil _
      refine WC.seq fun K3432 hK3432 => ?_
      refine WC.seq fun K3433 hK3433 => ?_
      -- region 18
      refine WC.region ?_
      -- R18.0 128 := model.go:184 move
      refine WL.v (by first | exact r_move (v := .int _ _) rfl | exact r_move rfl) rfl rfl rfl ?_
      -- R18.1 129 := model.go:184 binOp
      refine WL.v (by first | exact r_lss rfl rfl (decide_eq_true (by omega)) | exact r_lss rfl rfl (decide_eq_false (by omega)) | exact r_lss rfl rfl rfl) rfl rfl rfl ?_
      refine WL.fin hK3433 (fun _ _ h => h) ?_
      refine WC.condT rfl rfl ?_
      refine WC.skipF hK3432 (fun _ _ h => h) ?_
      refine WC.seq fun K3434 hK3434 => ?_
      refine WC.block ?_
      refine WC.seq fun K3435 hK3435 => ?_
      -- region 20
      refine WC.region ?_
      -- R20.0 132 := model.go:185 move
      refine WL.v (by first | exact r_move (v := .pointer _) rfl | exact r_move rfl) rfl rfl rfl ?_
      -- R20.1 133 := model.go:185 move
      refine WL.v (by first | exact r_move (v := .int _ _) rfl | exact r_move rfl) rfl rfl rfl ?_
      -- R20.2 134 := model.go:185 call
      refine WL.call (r_call ty_call98 rfl) rfl rfl rfl (pl_some hrel.u hip hpt hmm2 hp hX2 st) ?_
      rintro _ w ⟨rfl, st⟩
      -- R20.3 14 := model.go:185 assign
      refine WL.v (by first | exact r_assign (v := .int _ _) rfl | exact r_assign rfl) rfl rfl rfl ?_
      refine WL.fin hK3435 (fun _ _ h => h) ?_
      refine WC.seq fun K3436 hK3436 => ?_
      refine WC.seq fun K3437 hK3437 => ?_
      -- region 21
      refine WC.region ?_
      -- R21.0 135 := model.go:186 move
      refine WL.v (by first | exact r_move (v := .int _ _) rfl | exact r_move rfl) rfl rfl rfl ?_
      -- R21.1 136 := model.go:186 move
      refine WL.v (by first | exact r_move (v := .int _ _) rfl | exact r_move rfl) rfl rfl rfl ?_
      -- R21.2 137 := model.go:186 binOp
      refine WL.v (by exact r_eql rfl rfl (decide_eq_true (by omega))) rfl rfl rfl ?_
      -- R21.3 138 := model.go:186 move
      refine WL.v (by first | exact r_move (v := .bool _) rfl | exact r_move rfl) rfl rfl rfl ?_
      -- R21.4 139 := model.go:186 move
      refine WL.no rfl rfl ?_
      -- R21.5 140 := model.go:186 move
      refine WL.no rfl rfl ?_
      -- R21.6 141 := model.go:186 move
      refine WL.no rfl rfl ?_
      -- R21.7 142 := model.go:186 nilCheck
      refine WL.no rfl rfl ?_
      -- R21.8 143 := model.go:186 fieldAddr
      refine WL.no rfl rfl ?_
      -- R21.9 144 := model.go:186 indexAddr
      refine WL.no rfl rfl ?_
      -- R21.10 145 := model.go:186 indexAddr
      refine WL.no rfl rfl ?_
      -- R21.11 146 := model.go:186 load
      refine WL.no rfl rfl ?_
      -- R21.12 147 := model.go:186 binOp
      refine WL.no rfl rfl ?_
      -- R21.13 148 := model.go:186 move
      refine WL.no rfl rfl ?_
      -- R21.14 149 := model.go:186 move
      refine WL.no rfl rfl ?_
      -- R21.15 150 := model.go:186 binOp
      refine WL.no rfl rfl ?_
      -- R21.16 151 := model.go:186 move
      refine WL.no rfl rfl ?_
      -- R21.17 152 := model.go:186 move
      refine WL.no rfl rfl ?_
      -- R21.18 153 := model.go:186 nilCheck
      refine WL.no rfl rfl ?_
      -- R21.19 154 := model.go:186 fieldAddr
      refine WL.no rfl rfl ?_
      -- R21.20 155 := model.go:186 load
      refine WL.no rfl rfl ?_
      -- R21.21 156 := model.go:186 move
      refine WL.no rfl rfl ?_
      -- R21.22 157 := model.go:186 indexAddr
      refine WL.no rfl rfl ?_
      -- R21.23 158 := model.go:186 fieldAddr
      refine WL.no rfl rfl ?_
      -- R21.24 159 := model.go:186 load
      refine WL.no rfl rfl ?_
      -- R21.25 160 := model.go:186 move
      refine WL.no rfl rfl ?_
      -- R21.26 161 := model.go:186 binOp
      refine WL.no rfl rfl ?_
      -- R21.27 162 := model.go:186 pick
      refine WL.no rfl rfl ?_
      -- R21.28 163 := model.go:186 pick
      refine WL.no rfl rfl ?_
      -- R21.29 164 := model.go:186 pick
      refine WL.v (by first | exact r_pickT (v := .bool _) rfl rfl | exact r_pickF (v := .bool _) rfl rfl) rfl rfl rfl ?_
      refine WL.fin hK3437 (fun _ _ h => h) ?_
      refine WC.condT rfl rfl ?_
      refine WC.exitF hK3434 (fun _ _ h => h) ?_
      -- region 19
      refine WC.region ?_
      -- R19.0 130 := model.go:184 move
      refine WL.v (by first | exact r_move (v := .int _ _) rfl | exact r_move rfl) rfl rfl rfl ?_
      -- R19.1 131 := model.go:184 binOp
      refine WL.v (by first | exact r_add rfl rfl (wi64 (by omega) (by omega)) | exact r_add rfl rfl rfl) rfl rfl rfl ?_
      -- R19.2 13 := model.go:184 assign
      refine WL.v (by first | exact r_assign (v := .int _ _) rfl | exact r_assign rfl) rfl rfl rfl ?_
      refine WL.next hK1 (fun _ _ h => h) (k + 1, _, XL, _, XM) ⟨hk', by rw [e1]; exact hlO, by rw [e2]; exact hlY, st⟩ (by show 16 - (k + 1) < 16 - k; omega) (by repeat (first | exact sub_nil _ | refine sub_cons rfl rfl ?_))
    by_cases hh0 : s.held k r = 0
    rotate_left
    · have hrv : rvB s P t r k = true := by unfold rvB; rw [decide_eq_true hkt, decide_eq_true hh0]; rfl
      by_cases hold : (s.tk k).birth < (s.tk t).birth
      · have e1 : olL s P t r (k + 1) = olL s P t r k ++ [k] := by rw [eO, hrv, decide_eq_true hold]; rfl
        have e2 : yoL s P t r (k + 1) = yoL s P t r k := by rw [eY, hrv, decide_eq_true hold]; exact List.append_nil _
        refine WC.seq fun K3438 hK3438 => ?_
        refine WC.seq fun K3439 hK3439 => ?_
        -- region 18
        refine WC.region ?_
        -- R18.0 128 := model.go:184 move
        refine WL.v (by first | exact r_move (v := .int _ _) rfl | exact r_move rfl) rfl rfl rfl ?_
        -- R18.1 129 := model.go:184 binOp
        refine WL.v (by first | exact r_lss rfl rfl (decide_eq_true (by omega)) | exact r_lss rfl rfl (decide_eq_false (by omega)) | exact r_lss rfl rfl rfl) rfl rfl rfl ?_
        refine WL.fin hK3439 (fun _ _ h => h) ?_
        refine WC.condT rfl rfl ?_
        refine WC.skipF hK3438 (fun _ _ h => h) ?_
        refine WC.seq fun K3440 hK3440 => ?_
        refine WC.block ?_
        refine WC.seq fun K3441 hK3441 => ?_
        -- region 20
        refine WC.region ?_
        -- R20.0 132 := model.go:185 move
        refine WL.v (by first | exact r_move (v := .pointer _) rfl | exact r_move rfl) rfl rfl rfl ?_
        -- R20.1 133 := model.go:185 move
        refine WL.v (by first | exact r_move (v := .int _ _) rfl | exact r_move rfl) rfl rfl rfl ?_
        -- R20.2 134 := model.go:185 call
        refine WL.call (r_call ty_call98 rfl) rfl rfl rfl (pl_some hrel.u hip hpt hmm2 hp hX2 st) ?_
        rintro _ w ⟨rfl, st⟩
        -- R20.3 14 := model.go:185 assign
        refine WL.v (by first | exact r_assign (v := .int _ _) rfl | exact r_assign rfl) rfl rfl rfl ?_
        refine WL.fin hK3441 (fun _ _ h => h) ?_
        refine WC.seq fun K3442 hK3442 => ?_
        refine WC.seq fun K3443 hK3443 => ?_
        -- region 21
        refine WC.region ?_
        -- R21.0 135 := model.go:186 move
        refine WL.v (by first | exact r_move (v := .int _ _) rfl | exact r_move rfl) rfl rfl rfl ?_
        -- R21.1 136 := model.go:186 move
        refine WL.v (by first | exact r_move (v := .int _ _) rfl | exact r_move rfl) rfl rfl rfl ?_
        -- R21.2 137 := model.go:186 binOp
        refine WL.v (by exact r_eql rfl rfl (decide_eq_false (by omega))) rfl rfl rfl ?_
        -- R21.3 138 := model.go:186 move
        refine WL.v (by first | exact r_move (v := .bool _) rfl | exact r_move rfl) rfl rfl rfl ?_
        -- R21.4 139 := model.go:186 move
        refine WL.v (by first | exact r_move (v := .pointer _) rfl | exact r_move rfl) rfl rfl rfl ?_
        -- R21.5 140 := model.go:186 move
        refine WL.v (by first | exact r_move (v := .int _ _) rfl | exact r_move rfl) rfl rfl rfl ?_
        -- R21.6 141 := model.go:186 move
        refine WL.v (by first | exact r_move (v := .int _ _) rfl | exact r_move rfl) rfl rfl rfl ?_
        -- R21.7 142 := model.go:186 nilCheck
        refine WL.v (by exact r_nilCheck rfl) rfl rfl rfl ?_
        -- R21.8 143 := model.go:186 fieldAddr
        refine WL.v (by exact r_field ty_fld98_7 rfl) rfl rfl rfl ?_
        -- R21.9 144 := model.go:186 indexAddr
        refine WL.v (by exact r_indexA (j := k) ty_ar45 rfl rfl rfl hk') rfl rfl rfl ?_
        -- R21.10 145 := model.go:186 indexAddr
        refine WL.v (by exact r_indexA (j := r) ty_ar44 rfl rfl rfl hr) rfl rfl rfl ?_
        -- R21.11 146 := model.go:186 load
        refine WL.v (by exact r_load1 (v := .int .i64 (s.held k r : Nat)) ty_one3 rfl (c_mheld (m := mrOf s) hmm2 hk' hr (by omega) st)) rfl rfl rfl ?_
        -- R21.12 147 := model.go:186 binOp
        refine WL.v (by exact r_eql rfl rfl (decide_eq_false (by omega))) rfl rfl rfl ?_
        -- R21.13 148 := model.go:186 move
        refine WL.v (by first | exact r_move (v := .bool _) rfl | exact r_move rfl) rfl rfl rfl ?_
        -- R21.14 149 := model.go:186 move
        refine WL.no rfl rfl ?_
        -- R21.15 150 := model.go:186 binOp
        refine WL.no rfl rfl ?_
        -- R21.16 151 := model.go:186 move
        refine WL.no rfl rfl ?_
        -- R21.17 152 := model.go:186 move
        refine WL.no rfl rfl ?_
        -- R21.18 153 := model.go:186 nilCheck
        refine WL.no rfl rfl ?_
        -- R21.19 154 := model.go:186 fieldAddr
        refine WL.no rfl rfl ?_
        -- R21.20 155 := model.go:186 load
        refine WL.no rfl rfl ?_
        -- R21.21 156 := model.go:186 move
        refine WL.no rfl rfl ?_
        -- R21.22 157 := model.go:186 indexAddr
        refine WL.no rfl rfl ?_
        -- R21.23 158 := model.go:186 fieldAddr
        refine WL.no rfl rfl ?_
        -- R21.24 159 := model.go:186 load
        refine WL.no rfl rfl ?_
        -- R21.25 160 := model.go:186 move
        refine WL.no rfl rfl ?_
        -- R21.26 161 := model.go:186 binOp
        refine WL.no rfl rfl ?_
        -- R21.27 162 := model.go:186 pick
        refine WL.no rfl rfl ?_
        -- R21.28 163 := model.go:186 pick
        refine WL.v (by first | exact r_pickT (v := .bool _) rfl rfl | exact r_pickF (v := .bool _) rfl rfl) rfl rfl rfl ?_
        -- R21.29 164 := model.go:186 pick
        refine WL.v (by first | exact r_pickT (v := .bool _) rfl rfl | exact r_pickF (v := .bool _) rfl rfl) rfl rfl rfl ?_
        refine WL.fin hK3443 (fun _ _ h => h) ?_
        refine WC.condF rfl rfl ?_
        refine WC.skipF hK3442 (fun _ _ h => h) ?_
        refine WC.seq fun K3444 hK3444 => ?_
        -- region 22 (draws)
        refine WC.quietS st ty_mixed (by kernel_rfl) fun Kq hKq => ?_
        -- R22.0 165 := model.go:189 move
        refine QL.v (fun w st => by first | exact r_move (v := .pointer _) rfl | exact r_move rfl) rfl rfl rfl ?_
        -- R22.1 166 := model.go:189 move
        refine QL.v (fun w st => by first | exact r_move (v := .int _ _) rfl | exact r_move rfl) rfl rfl rfl ?_
        -- R22.2 167 := model.go:189 nilCheck
        refine QL.v (fun w st => by exact r_nilCheck rfl) rfl rfl rfl ?_
        -- R22.3 168 := model.go:189 fieldAddr
        refine QL.v (fun w st => by exact r_field ty_fld98_5 rfl) rfl rfl rfl ?_
        -- R22.4 169 := model.go:189 indexAddr
        refine QL.v (fun w st => by exact r_indexA (j := k) ty_ar81 rfl rfl rfl hk') rfl rfl rfl ?_
        -- R22.5 170 := model.go:189 load
        refine QL.v (fun w st => by exact r_load1 (v := .int .u64 ((s.tk k).birth : Nat)) ty_one26 rfl (c_mbirth (m := mrOf s) hmm2 hk' (by omega) st)) rfl rfl rfl ?_
        -- R22.6 171 := model.go:189 move
        refine QL.v (fun w st => by first | exact r_move (v := .pointer _) rfl | exact r_move rfl) rfl rfl rfl ?_
        -- R22.7 172 := model.go:189 move
        refine QL.v (fun w st => by first | exact r_move (v := .int _ _) rfl | exact r_move rfl) rfl rfl rfl ?_
        -- R22.8 173 := model.go:189 nilCheck
        refine QL.v (fun w st => by exact r_nilCheck rfl) rfl rfl rfl ?_
        -- R22.9 174 := model.go:189 fieldAddr
        refine QL.v (fun w st => by exact r_field ty_fld98_5 rfl) rfl rfl rfl ?_
        -- R22.10 175 := model.go:189 indexAddr
        refine QL.v (fun w st => by exact r_indexA (j := t) ty_ar81 rfl rfl rfl ht) rfl rfl rfl ?_
        -- R22.11 176 := model.go:189 load
        refine QL.v (fun w st => by exact r_load1 (v := .int .u64 ((s.tk t).birth : Nat)) ty_one26 rfl (c_mbirth (m := mrOf s) hmm2 ht (by omega) st)) rfl rfl rfl ?_
        -- R22.12 177 := model.go:189 binOp
        refine QL.v (fun w st => by exact r_lss rfl rfl (decide_eq_true (by omega))) rfl rfl rfl ?_
        refine QL.wl hKq fun w st => ?_
        refine WL.fin hK3444 (fun _ _ h => h) ?_
        refine WC.condT rfl rfl ?_
        -- region 23
        refine WC.region ?_
        -- R23.0 178 := model.go:190 move
        refine WL.v (by first | exact r_move (v := .slice _ _ _) rfl | exact r_move rfl) rfl rfl rfl ?_
        -- R23.1 179 := model.go:190 move
        refine WL.v (by first | exact r_move (v := .int _ _) rfl | exact r_move rfl) rfl rfl rfl ?_
        -- R23.2 180 := model.go:190 buildSlice
        first | refine WL.mkslice (m := 1) (vs := [.int _ _]) st ty_sl54 ty_zero31 rfl rfl rfl rfl rfl rfl ?_ | refine WL.mkslice (m := 1) (vs := [_]) st ty_sl54 ty_zero31 rfl rfl rfl rfl rfl rfl ?_ | refine WL.mkslice st ty_sl54 ty_zero31 rfl rfl rfl rfl rfl rfl ?_
        intro b180 w st
        -- R23.3 181 := model.go:190 call
        have c0 : ∀ j, j < 1 → w.cell? ⟨b180, 0 + j, none⟩ = some (iE k j) := fun j hj => by rw [st.c0 (by omega), show 0 + j = 0 by omega]; rfl
        have st : S0 w0 (XL ++ ((b180, Row 31 1 (nth [.int .i64 (k : Nat)])) :: (XM ++ ((b7, Row 28 5 (nth (opL o))) :: moI bm (mrOf s) pv tv mb :: (XP ++ (XO ++ (mpI mb (odF s) ++ l))))))) w := st.perm (by classical exact List.perm_iff_count.2 fun x => by simp only [List.count_append, List.count_cons, List.count_nil, List.append_eq, List.cons_append, List.nil_append, List.append_assoc, Nat.add_zero, Nat.zero_add] <;> ac_rfl)
        refine WL.appL (bx := b180) (ox := 0) (a := k) hlO st ty_mk54 ty_zero31 rfl (by decide) rfl rfl c0 iE_one (by omega) (by omega) rfl rfl rfl ?_
        intro v' X' w hl' st
        have st : S0 w0 (X' ++ (XM ++ ((b7, Row 28 5 (nth (opL o))) :: moI bm (mrOf s) pv tv mb :: (XP ++ (XO ++ (mpI mb (odF s) ++ l)))))) w := (st.perm (by classical exact List.perm_iff_count.2 fun x => by simp only [List.count_append, List.count_cons, List.count_nil, List.append_eq, List.cons_append, List.nil_append, List.append_assoc, Nat.add_zero, Nat.zero_add] <;> ac_rfl) : S0 w0 ((b180, Row 31 1 (nth [.int .i64 (k : Nat)])) :: (X' ++ (XM ++ ((b7, Row 28 5 (nth (opL o))) :: moI bm (mrOf s) pv tv mb :: (XP ++ (XO ++ (mpI mb (odF s) ++ l))))))) w).drop
        obtain ⟨a', c', b', rfl, -, -, -, -⟩ := hl'.form
        -- R23.4 11 := model.go:190 assign
        refine WL.v (by first | exact r_assign (v := .slice _ _ _) rfl | exact r_assign rfl) rfl rfl rfl ?_
        refine WL.fin hK3440 (fun _ _ h => h) ?_
        -- region 19
        refine WC.region ?_
        -- R19.0 130 := model.go:184 move
        refine WL.v (by first | exact r_move (v := .int _ _) rfl | exact r_move rfl) rfl rfl rfl ?_
        -- R19.1 131 := model.go:184 binOp
        refine WL.v (by first | exact r_add rfl rfl (wi64 (by omega) (by omega)) | exact r_add rfl rfl rfl) rfl rfl rfl ?_
        -- R19.2 13 := model.go:184 assign
        refine WL.v (by first | exact r_assign (v := .int _ _) rfl | exact r_assign rfl) rfl rfl rfl ?_
        refine WL.next hK1 (fun _ _ h => h) (k + 1, _, X', _, XM) ⟨hk', by rw [e1]; exact hl', by rw [e2]; exact hlY, st⟩ (by show 16 - (k + 1) < 16 - k; omega) (by repeat (first | exact sub_nil _ | refine sub_cons rfl rfl ?_))
      · have e1 : olL s P t r (k + 1) = olL s P t r k := by rw [eO, hrv, decide_eq_false hold]; exact List.append_nil _
        have e2 : yoL s P t r (k + 1) = yoL s P t r k ++ [k] := by rw [eY, hrv, decide_eq_false hold]; rfl
        refine WC.seq fun K3445 hK3445 => ?_
        refine WC.seq fun K3446 hK3446 => ?_
        -- region 18
        refine WC.region ?_
        -- R18.0 128 := model.go:184 move
        refine WL.v (by first | exact r_move (v := .int _ _) rfl | exact r_move rfl) rfl rfl rfl ?_
        -- R18.1 129 := model.go:184 binOp
        refine WL.v (by first | exact r_lss rfl rfl (decide_eq_true (by omega)) | exact r_lss rfl rfl (decide_eq_false (by omega)) | exact r_lss rfl rfl rfl) rfl rfl rfl ?_
        refine WL.fin hK3446 (fun _ _ h => h) ?_
        refine WC.condT rfl rfl ?_
        refine WC.skipF hK3445 (fun _ _ h => h) ?_
        refine WC.seq fun K3447 hK3447 => ?_
        refine WC.block ?_
        refine WC.seq fun K3448 hK3448 => ?_
        -- region 20
        refine WC.region ?_
        -- R20.0 132 := model.go:185 move
        refine WL.v (by first | exact r_move (v := .pointer _) rfl | exact r_move rfl) rfl rfl rfl ?_
        -- R20.1 133 := model.go:185 move
        refine WL.v (by first | exact r_move (v := .int _ _) rfl | exact r_move rfl) rfl rfl rfl ?_
        -- R20.2 134 := model.go:185 call
        refine WL.call (r_call ty_call98 rfl) rfl rfl rfl (pl_some hrel.u hip hpt hmm2 hp hX2 st) ?_
        rintro _ w ⟨rfl, st⟩
        -- R20.3 14 := model.go:185 assign
        refine WL.v (by first | exact r_assign (v := .int _ _) rfl | exact r_assign rfl) rfl rfl rfl ?_
        refine WL.fin hK3448 (fun _ _ h => h) ?_
        refine WC.seq fun K3449 hK3449 => ?_
        refine WC.seq fun K3450 hK3450 => ?_
        -- region 21
        refine WC.region ?_
        -- R21.0 135 := model.go:186 move
        refine WL.v (by first | exact r_move (v := .int _ _) rfl | exact r_move rfl) rfl rfl rfl ?_
        -- R21.1 136 := model.go:186 move
        refine WL.v (by first | exact r_move (v := .int _ _) rfl | exact r_move rfl) rfl rfl rfl ?_
        -- R21.2 137 := model.go:186 binOp
        refine WL.v (by exact r_eql rfl rfl (decide_eq_false (by omega))) rfl rfl rfl ?_
        -- R21.3 138 := model.go:186 move
        refine WL.v (by first | exact r_move (v := .bool _) rfl | exact r_move rfl) rfl rfl rfl ?_
        -- R21.4 139 := model.go:186 move
        refine WL.v (by first | exact r_move (v := .pointer _) rfl | exact r_move rfl) rfl rfl rfl ?_
        -- R21.5 140 := model.go:186 move
        refine WL.v (by first | exact r_move (v := .int _ _) rfl | exact r_move rfl) rfl rfl rfl ?_
        -- R21.6 141 := model.go:186 move
        refine WL.v (by first | exact r_move (v := .int _ _) rfl | exact r_move rfl) rfl rfl rfl ?_
        -- R21.7 142 := model.go:186 nilCheck
        refine WL.v (by exact r_nilCheck rfl) rfl rfl rfl ?_
        -- R21.8 143 := model.go:186 fieldAddr
        refine WL.v (by exact r_field ty_fld98_7 rfl) rfl rfl rfl ?_
        -- R21.9 144 := model.go:186 indexAddr
        refine WL.v (by exact r_indexA (j := k) ty_ar45 rfl rfl rfl hk') rfl rfl rfl ?_
        -- R21.10 145 := model.go:186 indexAddr
        refine WL.v (by exact r_indexA (j := r) ty_ar44 rfl rfl rfl hr) rfl rfl rfl ?_
        -- R21.11 146 := model.go:186 load
        refine WL.v (by exact r_load1 (v := .int .i64 (s.held k r : Nat)) ty_one3 rfl (c_mheld (m := mrOf s) hmm2 hk' hr (by omega) st)) rfl rfl rfl ?_
        -- R21.12 147 := model.go:186 binOp
        refine WL.v (by exact r_eql rfl rfl (decide_eq_false (by omega))) rfl rfl rfl ?_
        -- R21.13 148 := model.go:186 move
        refine WL.v (by first | exact r_move (v := .bool _) rfl | exact r_move rfl) rfl rfl rfl ?_
        -- R21.14 149 := model.go:186 move
        refine WL.no rfl rfl ?_
        -- R21.15 150 := model.go:186 binOp
        refine WL.no rfl rfl ?_
        -- R21.16 151 := model.go:186 move
        refine WL.no rfl rfl ?_
        -- R21.17 152 := model.go:186 move
        refine WL.no rfl rfl ?_
        -- R21.18 153 := model.go:186 nilCheck
        refine WL.no rfl rfl ?_
        -- R21.19 154 := model.go:186 fieldAddr
        refine WL.no rfl rfl ?_
        -- R21.20 155 := model.go:186 load
        refine WL.no rfl rfl ?_
        -- R21.21 156 := model.go:186 move
        refine WL.no rfl rfl ?_
        -- R21.22 157 := model.go:186 indexAddr
        refine WL.no rfl rfl ?_
        -- R21.23 158 := model.go:186 fieldAddr
        refine WL.no rfl rfl ?_
        -- R21.24 159 := model.go:186 load
        refine WL.no rfl rfl ?_
        -- R21.25 160 := model.go:186 move
        refine WL.no rfl rfl ?_
        -- R21.26 161 := model.go:186 binOp
        refine WL.no rfl rfl ?_
        -- R21.27 162 := model.go:186 pick
        refine WL.no rfl rfl ?_
        -- R21.28 163 := model.go:186 pick
        refine WL.v (by first | exact r_pickT (v := .bool _) rfl rfl | exact r_pickF (v := .bool _) rfl rfl) rfl rfl rfl ?_
        -- R21.29 164 := model.go:186 pick
        refine WL.v (by first | exact r_pickT (v := .bool _) rfl rfl | exact r_pickF (v := .bool _) rfl rfl) rfl rfl rfl ?_
        refine WL.fin hK3450 (fun _ _ h => h) ?_
        refine WC.condF rfl rfl ?_
        refine WC.skipF hK3449 (fun _ _ h => h) ?_
        refine WC.seq fun K3451 hK3451 => ?_
        -- region 22 (draws)
        refine WC.quietS st ty_mixed (by kernel_rfl) fun Kq hKq => ?_
        -- R22.0 165 := model.go:189 move
        refine QL.v (fun w st => by first | exact r_move (v := .pointer _) rfl | exact r_move rfl) rfl rfl rfl ?_
        -- R22.1 166 := model.go:189 move
        refine QL.v (fun w st => by first | exact r_move (v := .int _ _) rfl | exact r_move rfl) rfl rfl rfl ?_
        -- R22.2 167 := model.go:189 nilCheck
        refine QL.v (fun w st => by exact r_nilCheck rfl) rfl rfl rfl ?_
        -- R22.3 168 := model.go:189 fieldAddr
        refine QL.v (fun w st => by exact r_field ty_fld98_5 rfl) rfl rfl rfl ?_
        -- R22.4 169 := model.go:189 indexAddr
        refine QL.v (fun w st => by exact r_indexA (j := k) ty_ar81 rfl rfl rfl hk') rfl rfl rfl ?_
        -- R22.5 170 := model.go:189 load
        refine QL.v (fun w st => by exact r_load1 (v := .int .u64 ((s.tk k).birth : Nat)) ty_one26 rfl (c_mbirth (m := mrOf s) hmm2 hk' (by omega) st)) rfl rfl rfl ?_
        -- R22.6 171 := model.go:189 move
        refine QL.v (fun w st => by first | exact r_move (v := .pointer _) rfl | exact r_move rfl) rfl rfl rfl ?_
        -- R22.7 172 := model.go:189 move
        refine QL.v (fun w st => by first | exact r_move (v := .int _ _) rfl | exact r_move rfl) rfl rfl rfl ?_
        -- R22.8 173 := model.go:189 nilCheck
        refine QL.v (fun w st => by exact r_nilCheck rfl) rfl rfl rfl ?_
        -- R22.9 174 := model.go:189 fieldAddr
        refine QL.v (fun w st => by exact r_field ty_fld98_5 rfl) rfl rfl rfl ?_
        -- R22.10 175 := model.go:189 indexAddr
        refine QL.v (fun w st => by exact r_indexA (j := t) ty_ar81 rfl rfl rfl ht) rfl rfl rfl ?_
        -- R22.11 176 := model.go:189 load
        refine QL.v (fun w st => by exact r_load1 (v := .int .u64 ((s.tk t).birth : Nat)) ty_one26 rfl (c_mbirth (m := mrOf s) hmm2 ht (by omega) st)) rfl rfl rfl ?_
        -- R22.12 177 := model.go:189 binOp
        refine QL.v (fun w st => by exact r_lss rfl rfl (decide_eq_false (by omega))) rfl rfl rfl ?_
        refine QL.wl hKq fun w st => ?_
        refine WL.fin hK3451 (fun _ _ h => h) ?_
        refine WC.condF rfl rfl ?_
        -- region 24
        refine WC.region ?_
        -- R24.0 182 := model.go:192 move
        refine WL.v (by first | exact r_move (v := .slice _ _ _) rfl | exact r_move rfl) rfl rfl rfl ?_
        -- R24.1 183 := model.go:192 move
        refine WL.v (by first | exact r_move (v := .int _ _) rfl | exact r_move rfl) rfl rfl rfl ?_
        -- R24.2 184 := model.go:192 buildSlice
        first | refine WL.mkslice (m := 1) (vs := [.int _ _]) st ty_sl54 ty_zero31 rfl rfl rfl rfl rfl rfl ?_ | refine WL.mkslice (m := 1) (vs := [_]) st ty_sl54 ty_zero31 rfl rfl rfl rfl rfl rfl ?_ | refine WL.mkslice st ty_sl54 ty_zero31 rfl rfl rfl rfl rfl rfl ?_
        intro b184 w st
        -- R24.3 185 := model.go:192 call
        have c0 : ∀ j, j < 1 → w.cell? ⟨b184, 0 + j, none⟩ = some (iE k j) := fun j hj => by rw [st.c0 (by omega), show 0 + j = 0 by omega]; rfl
        have st : S0 w0 (XM ++ ((b184, Row 31 1 (nth [.int .i64 (k : Nat)])) :: (XL ++ ((b7, Row 28 5 (nth (opL o))) :: moI bm (mrOf s) pv tv mb :: (XP ++ (XO ++ (mpI mb (odF s) ++ l))))))) w := st.perm (by classical exact List.perm_iff_count.2 fun x => by simp only [List.count_append, List.count_cons, List.count_nil, List.append_eq, List.cons_append, List.nil_append, List.append_assoc, Nat.add_zero, Nat.zero_add] <;> ac_rfl)
        refine WL.appL (bx := b184) (ox := 0) (a := k) hlY st ty_mk54 ty_zero31 rfl (by decide) rfl rfl c0 iE_one (by omega) (by omega) rfl rfl rfl ?_
        intro v' X' w hl' st
        have st : S0 w0 (XL ++ (X' ++ ((b7, Row 28 5 (nth (opL o))) :: moI bm (mrOf s) pv tv mb :: (XP ++ (XO ++ (mpI mb (odF s) ++ l)))))) w := (st.perm (by classical exact List.perm_iff_count.2 fun x => by simp only [List.count_append, List.count_cons, List.count_nil, List.append_eq, List.cons_append, List.nil_append, List.append_assoc, Nat.add_zero, Nat.zero_add] <;> ac_rfl) : S0 w0 ((b184, Row 31 1 (nth [.int .i64 (k : Nat)])) :: (XL ++ (X' ++ ((b7, Row 28 5 (nth (opL o))) :: moI bm (mrOf s) pv tv mb :: (XP ++ (XO ++ (mpI mb (odF s) ++ l))))))) w).drop
        obtain ⟨a', c', b', rfl, -, -, -, -⟩ := hl'.form
        -- R24.4 12 := model.go:192 assign
        refine WL.v (by first | exact r_assign (v := .slice _ _ _) rfl | exact r_assign rfl) rfl rfl rfl ?_
        refine WL.fin hK3447 (fun _ _ h => h) ?_
        -- region 19
        refine WC.region ?_
        -- R19.0 130 := model.go:184 move
        refine WL.v (by first | exact r_move (v := .int _ _) rfl | exact r_move rfl) rfl rfl rfl ?_
        -- R19.1 131 := model.go:184 binOp
        refine WL.v (by first | exact r_add rfl rfl (wi64 (by omega) (by omega)) | exact r_add rfl rfl rfl) rfl rfl rfl ?_
        -- R19.2 13 := model.go:184 assign
        refine WL.v (by first | exact r_assign (v := .int _ _) rfl | exact r_assign rfl) rfl rfl rfl ?_
        refine WL.next hK1 (fun _ _ h => h) (k + 1, _, XL, _, X') ⟨hk', by rw [e1]; exact hlO, by rw [e2]; exact hl', st⟩ (by show 16 - (k + 1) < 16 - k; omega) (by repeat (first | exact sub_nil _ | refine sub_cons rfl rfl ?_))
    by_cases hpr : p.r = r
    · have hrv : rvB s P t r k = true := by
        unfold rvB
        rw [decide_eq_true hkt, List.any_eq_true.2 ⟨p, hpm, by simp [hpt, hpr]⟩, Bool.or_true]; rfl
      by_cases hold : (s.tk k).birth < (s.tk t).birth
      · have e1 : olL s P t r (k + 1) = olL s P t r k ++ [k] := by rw [eO, hrv, decide_eq_true hold]; rfl
        have e2 : yoL s P t r (k + 1) = yoL s P t r k := by rw [eY, hrv, decide_eq_true hold]; exact List.append_nil _
        refine WC.seq fun K3452 hK3452 => ?_
        refine WC.seq fun K3453 hK3453 => ?_
        -- region 18
        refine WC.region ?_
        -- R18.0 128 := model.go:184 move
        refine WL.v (by first | exact r_move (v := .int _ _) rfl | exact r_move rfl) rfl rfl rfl ?_
        -- R18.1 129 := model.go:184 binOp
        refine WL.v (by first | exact r_lss rfl rfl (decide_eq_true (by omega)) | exact r_lss rfl rfl (decide_eq_false (by omega)) | exact r_lss rfl rfl rfl) rfl rfl rfl ?_
        refine WL.fin hK3453 (fun _ _ h => h) ?_
        refine WC.condT rfl rfl ?_
        refine WC.skipF hK3452 (fun _ _ h => h) ?_
        refine WC.seq fun K3454 hK3454 => ?_
        refine WC.block ?_
        refine WC.seq fun K3455 hK3455 => ?_
        -- region 20
        refine WC.region ?_
        -- R20.0 132 := model.go:185 move
        refine WL.v (by first | exact r_move (v := .pointer _) rfl | exact r_move rfl) rfl rfl rfl ?_
        -- R20.1 133 := model.go:185 move
        refine WL.v (by first | exact r_move (v := .int _ _) rfl | exact r_move rfl) rfl rfl rfl ?_
        -- R20.2 134 := model.go:185 call
        refine WL.call (r_call ty_call98 rfl) rfl rfl rfl (pl_some hrel.u hip hpt hmm2 hp hX2 st) ?_
        rintro _ w ⟨rfl, st⟩
        -- R20.3 14 := model.go:185 assign
        refine WL.v (by first | exact r_assign (v := .int _ _) rfl | exact r_assign rfl) rfl rfl rfl ?_
        refine WL.fin hK3455 (fun _ _ h => h) ?_
        refine WC.seq fun K3456 hK3456 => ?_
        refine WC.seq fun K3457 hK3457 => ?_
        -- region 21
        refine WC.region ?_
        -- R21.0 135 := model.go:186 move
        refine WL.v (by first | exact r_move (v := .int _ _) rfl | exact r_move rfl) rfl rfl rfl ?_
        -- R21.1 136 := model.go:186 move
        refine WL.v (by first | exact r_move (v := .int _ _) rfl | exact r_move rfl) rfl rfl rfl ?_
        -- R21.2 137 := model.go:186 binOp
        refine WL.v (by exact r_eql rfl rfl (decide_eq_false (by omega))) rfl rfl rfl ?_
        -- R21.3 138 := model.go:186 move
        refine WL.v (by first | exact r_move (v := .bool _) rfl | exact r_move rfl) rfl rfl rfl ?_
        -- R21.4 139 := model.go:186 move
        refine WL.v (by first | exact r_move (v := .pointer _) rfl | exact r_move rfl) rfl rfl rfl ?_
        -- R21.5 140 := model.go:186 move
        refine WL.v (by first | exact r_move (v := .int _ _) rfl | exact r_move rfl) rfl rfl rfl ?_
        -- R21.6 141 := model.go:186 move
        refine WL.v (by first | exact r_move (v := .int _ _) rfl | exact r_move rfl) rfl rfl rfl ?_
        -- R21.7 142 := model.go:186 nilCheck
        refine WL.v (by exact r_nilCheck rfl) rfl rfl rfl ?_
        -- R21.8 143 := model.go:186 fieldAddr
        refine WL.v (by exact r_field ty_fld98_7 rfl) rfl rfl rfl ?_
        -- R21.9 144 := model.go:186 indexAddr
        refine WL.v (by exact r_indexA (j := k) ty_ar45 rfl rfl rfl hk') rfl rfl rfl ?_
        -- R21.10 145 := model.go:186 indexAddr
        refine WL.v (by exact r_indexA (j := r) ty_ar44 rfl rfl rfl hr) rfl rfl rfl ?_
        -- R21.11 146 := model.go:186 load
        refine WL.v (by exact r_load1 (v := .int .i64 (s.held k r : Nat)) ty_one3 rfl (c_mheld (m := mrOf s) hmm2 hk' hr (by omega) st)) rfl rfl rfl ?_
        -- R21.12 147 := model.go:186 binOp
        refine WL.v (by exact r_eql rfl rfl (decide_eq_true (by omega))) rfl rfl rfl ?_
        -- R21.13 148 := model.go:186 move
        refine WL.v (by first | exact r_move (v := .bool _) rfl | exact r_move rfl) rfl rfl rfl ?_
        -- R21.14 149 := model.go:186 move
        refine WL.v (by first | exact r_move (v := .int _ _) rfl | exact r_move rfl) rfl rfl rfl ?_
        -- R21.15 150 := model.go:186 binOp
        refine WL.v (by exact r_lss rfl rfl (decide_eq_false (by omega))) rfl rfl rfl ?_
        -- R21.16 151 := model.go:186 move
        refine WL.v (by first | exact r_move (v := .bool _) rfl | exact r_move rfl) rfl rfl rfl ?_
        -- R21.17 152 := model.go:186 move
        refine WL.v (by first | exact r_move (v := .pointer _) rfl | exact r_move rfl) rfl rfl rfl ?_
        -- R21.18 153 := model.go:186 nilCheck
        refine WL.v (by exact r_nilCheck rfl) rfl rfl rfl ?_
        -- R21.19 154 := model.go:186 fieldAddr
        refine WL.v (by exact r_field ty_fld98_9 rfl) rfl rfl rfl ?_
        -- R21.20 155 := model.go:186 load
        refine WL.v (by exact r_load1 (v := .slice (some ⟨b, 0, none⟩) P.length c) ty_one96 rfl (by rw [← hpv]; exact c_m (m := mrOf s) hmm2 (by decide) rfl st)) rfl rfl rfl ?_
        -- R21.21 156 := model.go:186 move
        refine WL.v (by first | exact r_move (v := .int _ _) rfl | exact r_move rfl) rfl rfl rfl ?_
        -- R21.22 157 := model.go:186 indexAddr
        refine WL.v (by exact r_indexS (j := i) ty_sl96 rfl rfl rfl (by omega)) rfl rfl rfl ?_
        -- R21.23 158 := model.go:186 fieldAddr
        refine WL.v (by exact r_field ty_fld102_1 rfl) rfl rfl rfl ?_
        -- R21.24 159 := model.go:186 load
        refine WL.v (by exact r_load1 (v := .int .i64 (p.r : Nat)) ty_one77 rfl (c_pq (j := 1) (a := none) hcell hX2 hip (by decide) st)) rfl rfl rfl ?_
        -- R21.25 160 := model.go:186 move
        refine WL.v (by first | exact r_move (v := .int _ _) rfl | exact r_move rfl) rfl rfl rfl ?_
        -- R21.26 161 := model.go:186 binOp
        refine WL.v (by exact r_neq rfl rfl (decide_eq_false (by omega))) rfl rfl rfl ?_
        -- R21.27 162 := model.go:186 pick
        refine WL.v (by first | exact r_pickT (v := .bool _) rfl rfl | exact r_pickF (v := .bool _) rfl rfl) rfl rfl rfl ?_
        -- R21.28 163 := model.go:186 pick
        refine WL.v (by first | exact r_pickT (v := .bool _) rfl rfl | exact r_pickF (v := .bool _) rfl rfl) rfl rfl rfl ?_
        -- R21.29 164 := model.go:186 pick
        refine WL.v (by first | exact r_pickT (v := .bool _) rfl rfl | exact r_pickF (v := .bool _) rfl rfl) rfl rfl rfl ?_
        refine WL.fin hK3457 (fun _ _ h => h) ?_
        refine WC.condF rfl rfl ?_
        refine WC.skipF hK3456 (fun _ _ h => h) ?_
        refine WC.seq fun K3458 hK3458 => ?_
        -- region 22 (draws)
        refine WC.quietS st ty_mixed (by kernel_rfl) fun Kq hKq => ?_
        -- R22.0 165 := model.go:189 move
        refine QL.v (fun w st => by first | exact r_move (v := .pointer _) rfl | exact r_move rfl) rfl rfl rfl ?_
        -- R22.1 166 := model.go:189 move
        refine QL.v (fun w st => by first | exact r_move (v := .int _ _) rfl | exact r_move rfl) rfl rfl rfl ?_
        -- R22.2 167 := model.go:189 nilCheck
        refine QL.v (fun w st => by exact r_nilCheck rfl) rfl rfl rfl ?_
        -- R22.3 168 := model.go:189 fieldAddr
        refine QL.v (fun w st => by exact r_field ty_fld98_5 rfl) rfl rfl rfl ?_
        -- R22.4 169 := model.go:189 indexAddr
        refine QL.v (fun w st => by exact r_indexA (j := k) ty_ar81 rfl rfl rfl hk') rfl rfl rfl ?_
        -- R22.5 170 := model.go:189 load
        refine QL.v (fun w st => by exact r_load1 (v := .int .u64 ((s.tk k).birth : Nat)) ty_one26 rfl (c_mbirth (m := mrOf s) hmm2 hk' (by omega) st)) rfl rfl rfl ?_
        -- R22.6 171 := model.go:189 move
        refine QL.v (fun w st => by first | exact r_move (v := .pointer _) rfl | exact r_move rfl) rfl rfl rfl ?_
        -- R22.7 172 := model.go:189 move
        refine QL.v (fun w st => by first | exact r_move (v := .int _ _) rfl | exact r_move rfl) rfl rfl rfl ?_
        -- R22.8 173 := model.go:189 nilCheck
        refine QL.v (fun w st => by exact r_nilCheck rfl) rfl rfl rfl ?_
        -- R22.9 174 := model.go:189 fieldAddr
        refine QL.v (fun w st => by exact r_field ty_fld98_5 rfl) rfl rfl rfl ?_
        -- R22.10 175 := model.go:189 indexAddr
        refine QL.v (fun w st => by exact r_indexA (j := t) ty_ar81 rfl rfl rfl ht) rfl rfl rfl ?_
        -- R22.11 176 := model.go:189 load
        refine QL.v (fun w st => by exact r_load1 (v := .int .u64 ((s.tk t).birth : Nat)) ty_one26 rfl (c_mbirth (m := mrOf s) hmm2 ht (by omega) st)) rfl rfl rfl ?_
        -- R22.12 177 := model.go:189 binOp
        refine QL.v (fun w st => by exact r_lss rfl rfl (decide_eq_true (by omega))) rfl rfl rfl ?_
        refine QL.wl hKq fun w st => ?_
        refine WL.fin hK3458 (fun _ _ h => h) ?_
        refine WC.condT rfl rfl ?_
        -- region 23
        refine WC.region ?_
        -- R23.0 178 := model.go:190 move
        refine WL.v (by first | exact r_move (v := .slice _ _ _) rfl | exact r_move rfl) rfl rfl rfl ?_
        -- R23.1 179 := model.go:190 move
        refine WL.v (by first | exact r_move (v := .int _ _) rfl | exact r_move rfl) rfl rfl rfl ?_
        -- R23.2 180 := model.go:190 buildSlice
        first | refine WL.mkslice (m := 1) (vs := [.int _ _]) st ty_sl54 ty_zero31 rfl rfl rfl rfl rfl rfl ?_ | refine WL.mkslice (m := 1) (vs := [_]) st ty_sl54 ty_zero31 rfl rfl rfl rfl rfl rfl ?_ | refine WL.mkslice st ty_sl54 ty_zero31 rfl rfl rfl rfl rfl rfl ?_
        intro b180 w st
        -- R23.3 181 := model.go:190 call
        have c0 : ∀ j, j < 1 → w.cell? ⟨b180, 0 + j, none⟩ = some (iE k j) := fun j hj => by rw [st.c0 (by omega), show 0 + j = 0 by omega]; rfl
        have st : S0 w0 (XL ++ ((b180, Row 31 1 (nth [.int .i64 (k : Nat)])) :: (XM ++ ((b7, Row 28 5 (nth (opL o))) :: moI bm (mrOf s) pv tv mb :: (XP ++ (XO ++ (mpI mb (odF s) ++ l))))))) w := st.perm (by classical exact List.perm_iff_count.2 fun x => by simp only [List.count_append, List.count_cons, List.count_nil, List.append_eq, List.cons_append, List.nil_append, List.append_assoc, Nat.add_zero, Nat.zero_add] <;> ac_rfl)
        refine WL.appL (bx := b180) (ox := 0) (a := k) hlO st ty_mk54 ty_zero31 rfl (by decide) rfl rfl c0 iE_one (by omega) (by omega) rfl rfl rfl ?_
        intro v' X' w hl' st
        have st : S0 w0 (X' ++ (XM ++ ((b7, Row 28 5 (nth (opL o))) :: moI bm (mrOf s) pv tv mb :: (XP ++ (XO ++ (mpI mb (odF s) ++ l)))))) w := (st.perm (by classical exact List.perm_iff_count.2 fun x => by simp only [List.count_append, List.count_cons, List.count_nil, List.append_eq, List.cons_append, List.nil_append, List.append_assoc, Nat.add_zero, Nat.zero_add] <;> ac_rfl) : S0 w0 ((b180, Row 31 1 (nth [.int .i64 (k : Nat)])) :: (X' ++ (XM ++ ((b7, Row 28 5 (nth (opL o))) :: moI bm (mrOf s) pv tv mb :: (XP ++ (XO ++ (mpI mb (odF s) ++ l))))))) w).drop
        obtain ⟨a', c', b', rfl, -, -, -, -⟩ := hl'.form
        -- R23.4 11 := model.go:190 assign
        refine WL.v (by first | exact r_assign (v := .slice _ _ _) rfl | exact r_assign rfl) rfl rfl rfl ?_
        refine WL.fin hK3454 (fun _ _ h => h) ?_
        -- region 19
        refine WC.region ?_
        -- R19.0 130 := model.go:184 move
        refine WL.v (by first | exact r_move (v := .int _ _) rfl | exact r_move rfl) rfl rfl rfl ?_
        -- R19.1 131 := model.go:184 binOp
        refine WL.v (by first | exact r_add rfl rfl (wi64 (by omega) (by omega)) | exact r_add rfl rfl rfl) rfl rfl rfl ?_
        -- R19.2 13 := model.go:184 assign
        refine WL.v (by first | exact r_assign (v := .int _ _) rfl | exact r_assign rfl) rfl rfl rfl ?_
        refine WL.next hK1 (fun _ _ h => h) (k + 1, _, X', _, XM) ⟨hk', by rw [e1]; exact hl', by rw [e2]; exact hlY, st⟩ (by show 16 - (k + 1) < 16 - k; omega) (by repeat (first | exact sub_nil _ | refine sub_cons rfl rfl ?_))
      · have e1 : olL s P t r (k + 1) = olL s P t r k := by rw [eO, hrv, decide_eq_false hold]; exact List.append_nil _
        have e2 : yoL s P t r (k + 1) = yoL s P t r k ++ [k] := by rw [eY, hrv, decide_eq_false hold]; rfl
        refine WC.seq fun K3459 hK3459 => ?_
        refine WC.seq fun K3460 hK3460 => ?_
        -- region 18
        refine WC.region ?_
        -- R18.0 128 := model.go:184 move
        refine WL.v (by first | exact r_move (v := .int _ _) rfl | exact r_move rfl) rfl rfl rfl ?_
        -- R18.1 129 := model.go:184 binOp
        refine WL.v (by first | exact r_lss rfl rfl (decide_eq_true (by omega)) | exact r_lss rfl rfl (decide_eq_false (by omega)) | exact r_lss rfl rfl rfl) rfl rfl rfl ?_
        refine WL.fin hK3460 (fun _ _ h => h) ?_
        refine WC.condT rfl rfl ?_
        refine WC.skipF hK3459 (fun _ _ h => h) ?_
        refine WC.seq fun K3461 hK3461 => ?_
        refine WC.block ?_
        refine WC.seq fun K3462 hK3462 => ?_
        -- region 20
        refine WC.region ?_
        -- R20.0 132 := model.go:185 move
        refine WL.v (by first | exact r_move (v := .pointer _) rfl | exact r_move rfl) rfl rfl rfl ?_
        -- R20.1 133 := model.go:185 move
        refine WL.v (by first | exact r_move (v := .int _ _) rfl | exact r_move rfl) rfl rfl rfl ?_
        -- R20.2 134 := model.go:185 call
        refine WL.call (r_call ty_call98 rfl) rfl rfl rfl (pl_some hrel.u hip hpt hmm2 hp hX2 st) ?_
        rintro _ w ⟨rfl, st⟩
        -- R20.3 14 := model.go:185 assign
        refine WL.v (by first | exact r_assign (v := .int _ _) rfl | exact r_assign rfl) rfl rfl rfl ?_
        refine WL.fin hK3462 (fun _ _ h => h) ?_
        refine WC.seq fun K3463 hK3463 => ?_
        refine WC.seq fun K3464 hK3464 => ?_
        -- region 21
        refine WC.region ?_
        -- R21.0 135 := model.go:186 move
        refine WL.v (by first | exact r_move (v := .int _ _) rfl | exact r_move rfl) rfl rfl rfl ?_
        -- R21.1 136 := model.go:186 move
        refine WL.v (by first | exact r_move (v := .int _ _) rfl | exact r_move rfl) rfl rfl rfl ?_
        -- R21.2 137 := model.go:186 binOp
        refine WL.v (by exact r_eql rfl rfl (decide_eq_false (by omega))) rfl rfl rfl ?_
        -- R21.3 138 := model.go:186 move
        refine WL.v (by first | exact r_move (v := .bool _) rfl | exact r_move rfl) rfl rfl rfl ?_
        -- R21.4 139 := model.go:186 move
        refine WL.v (by first | exact r_move (v := .pointer _) rfl | exact r_move rfl) rfl rfl rfl ?_
        -- R21.5 140 := model.go:186 move
        refine WL.v (by first | exact r_move (v := .int _ _) rfl | exact r_move rfl) rfl rfl rfl ?_
        -- R21.6 141 := model.go:186 move
        refine WL.v (by first | exact r_move (v := .int _ _) rfl | exact r_move rfl) rfl rfl rfl ?_
        -- R21.7 142 := model.go:186 nilCheck
        refine WL.v (by exact r_nilCheck rfl) rfl rfl rfl ?_
        -- R21.8 143 := model.go:186 fieldAddr
        refine WL.v (by exact r_field ty_fld98_7 rfl) rfl rfl rfl ?_
        -- R21.9 144 := model.go:186 indexAddr
        refine WL.v (by exact r_indexA (j := k) ty_ar45 rfl rfl rfl hk') rfl rfl rfl ?_
        -- R21.10 145 := model.go:186 indexAddr
        refine WL.v (by exact r_indexA (j := r) ty_ar44 rfl rfl rfl hr) rfl rfl rfl ?_
        -- R21.11 146 := model.go:186 load
        refine WL.v (by exact r_load1 (v := .int .i64 (s.held k r : Nat)) ty_one3 rfl (c_mheld (m := mrOf s) hmm2 hk' hr (by omega) st)) rfl rfl rfl ?_
        -- R21.12 147 := model.go:186 binOp
        refine WL.v (by exact r_eql rfl rfl (decide_eq_true (by omega))) rfl rfl rfl ?_
        -- R21.13 148 := model.go:186 move
        refine WL.v (by first | exact r_move (v := .bool _) rfl | exact r_move rfl) rfl rfl rfl ?_
        -- R21.14 149 := model.go:186 move
        refine WL.v (by first | exact r_move (v := .int _ _) rfl | exact r_move rfl) rfl rfl rfl ?_
        -- R21.15 150 := model.go:186 binOp
        refine WL.v (by exact r_lss rfl rfl (decide_eq_false (by omega))) rfl rfl rfl ?_
        -- R21.16 151 := model.go:186 move
        refine WL.v (by first | exact r_move (v := .bool _) rfl | exact r_move rfl) rfl rfl rfl ?_
        -- R21.17 152 := model.go:186 move
        refine WL.v (by first | exact r_move (v := .pointer _) rfl | exact r_move rfl) rfl rfl rfl ?_
        -- R21.18 153 := model.go:186 nilCheck
        refine WL.v (by exact r_nilCheck rfl) rfl rfl rfl ?_
        -- R21.19 154 := model.go:186 fieldAddr
        refine WL.v (by exact r_field ty_fld98_9 rfl) rfl rfl rfl ?_
        -- R21.20 155 := model.go:186 load
        refine WL.v (by exact r_load1 (v := .slice (some ⟨b, 0, none⟩) P.length c) ty_one96 rfl (by rw [← hpv]; exact c_m (m := mrOf s) hmm2 (by decide) rfl st)) rfl rfl rfl ?_
        -- R21.21 156 := model.go:186 move
        refine WL.v (by first | exact r_move (v := .int _ _) rfl | exact r_move rfl) rfl rfl rfl ?_
        -- R21.22 157 := model.go:186 indexAddr
        refine WL.v (by exact r_indexS (j := i) ty_sl96 rfl rfl rfl (by omega)) rfl rfl rfl ?_
        -- R21.23 158 := model.go:186 fieldAddr
        refine WL.v (by exact r_field ty_fld102_1 rfl) rfl rfl rfl ?_
        -- R21.24 159 := model.go:186 load
        refine WL.v (by exact r_load1 (v := .int .i64 (p.r : Nat)) ty_one77 rfl (c_pq (j := 1) (a := none) hcell hX2 hip (by decide) st)) rfl rfl rfl ?_
        -- R21.25 160 := model.go:186 move
        refine WL.v (by first | exact r_move (v := .int _ _) rfl | exact r_move rfl) rfl rfl rfl ?_
        -- R21.26 161 := model.go:186 binOp
        refine WL.v (by exact r_neq rfl rfl (decide_eq_false (by omega))) rfl rfl rfl ?_
        -- R21.27 162 := model.go:186 pick
        refine WL.v (by first | exact r_pickT (v := .bool _) rfl rfl | exact r_pickF (v := .bool _) rfl rfl) rfl rfl rfl ?_
        -- R21.28 163 := model.go:186 pick
        refine WL.v (by first | exact r_pickT (v := .bool _) rfl rfl | exact r_pickF (v := .bool _) rfl rfl) rfl rfl rfl ?_
        -- R21.29 164 := model.go:186 pick
        refine WL.v (by first | exact r_pickT (v := .bool _) rfl rfl | exact r_pickF (v := .bool _) rfl rfl) rfl rfl rfl ?_
        refine WL.fin hK3464 (fun _ _ h => h) ?_
        refine WC.condF rfl rfl ?_
        refine WC.skipF hK3463 (fun _ _ h => h) ?_
        refine WC.seq fun K3465 hK3465 => ?_
        -- region 22 (draws)
        refine WC.quietS st ty_mixed (by kernel_rfl) fun Kq hKq => ?_
        -- R22.0 165 := model.go:189 move
        refine QL.v (fun w st => by first | exact r_move (v := .pointer _) rfl | exact r_move rfl) rfl rfl rfl ?_
        -- R22.1 166 := model.go:189 move
        refine QL.v (fun w st => by first | exact r_move (v := .int _ _) rfl | exact r_move rfl) rfl rfl rfl ?_
        -- R22.2 167 := model.go:189 nilCheck
        refine QL.v (fun w st => by exact r_nilCheck rfl) rfl rfl rfl ?_
        -- R22.3 168 := model.go:189 fieldAddr
        refine QL.v (fun w st => by exact r_field ty_fld98_5 rfl) rfl rfl rfl ?_
        -- R22.4 169 := model.go:189 indexAddr
        refine QL.v (fun w st => by exact r_indexA (j := k) ty_ar81 rfl rfl rfl hk') rfl rfl rfl ?_
        -- R22.5 170 := model.go:189 load
        refine QL.v (fun w st => by exact r_load1 (v := .int .u64 ((s.tk k).birth : Nat)) ty_one26 rfl (c_mbirth (m := mrOf s) hmm2 hk' (by omega) st)) rfl rfl rfl ?_
        -- R22.6 171 := model.go:189 move
        refine QL.v (fun w st => by first | exact r_move (v := .pointer _) rfl | exact r_move rfl) rfl rfl rfl ?_
        -- R22.7 172 := model.go:189 move
        refine QL.v (fun w st => by first | exact r_move (v := .int _ _) rfl | exact r_move rfl) rfl rfl rfl ?_
        -- R22.8 173 := model.go:189 nilCheck
        refine QL.v (fun w st => by exact r_nilCheck rfl) rfl rfl rfl ?_
        -- R22.9 174 := model.go:189 fieldAddr
        refine QL.v (fun w st => by exact r_field ty_fld98_5 rfl) rfl rfl rfl ?_
        -- R22.10 175 := model.go:189 indexAddr
        refine QL.v (fun w st => by exact r_indexA (j := t) ty_ar81 rfl rfl rfl ht) rfl rfl rfl ?_
        -- R22.11 176 := model.go:189 load
        refine QL.v (fun w st => by exact r_load1 (v := .int .u64 ((s.tk t).birth : Nat)) ty_one26 rfl (c_mbirth (m := mrOf s) hmm2 ht (by omega) st)) rfl rfl rfl ?_
        -- R22.12 177 := model.go:189 binOp
        refine QL.v (fun w st => by exact r_lss rfl rfl (decide_eq_false (by omega))) rfl rfl rfl ?_
        refine QL.wl hKq fun w st => ?_
        refine WL.fin hK3465 (fun _ _ h => h) ?_
        refine WC.condF rfl rfl ?_
        -- region 24
        refine WC.region ?_
        -- R24.0 182 := model.go:192 move
        refine WL.v (by first | exact r_move (v := .slice _ _ _) rfl | exact r_move rfl) rfl rfl rfl ?_
        -- R24.1 183 := model.go:192 move
        refine WL.v (by first | exact r_move (v := .int _ _) rfl | exact r_move rfl) rfl rfl rfl ?_
        -- R24.2 184 := model.go:192 buildSlice
        first | refine WL.mkslice (m := 1) (vs := [.int _ _]) st ty_sl54 ty_zero31 rfl rfl rfl rfl rfl rfl ?_ | refine WL.mkslice (m := 1) (vs := [_]) st ty_sl54 ty_zero31 rfl rfl rfl rfl rfl rfl ?_ | refine WL.mkslice st ty_sl54 ty_zero31 rfl rfl rfl rfl rfl rfl ?_
        intro b184 w st
        -- R24.3 185 := model.go:192 call
        have c0 : ∀ j, j < 1 → w.cell? ⟨b184, 0 + j, none⟩ = some (iE k j) := fun j hj => by rw [st.c0 (by omega), show 0 + j = 0 by omega]; rfl
        have st : S0 w0 (XM ++ ((b184, Row 31 1 (nth [.int .i64 (k : Nat)])) :: (XL ++ ((b7, Row 28 5 (nth (opL o))) :: moI bm (mrOf s) pv tv mb :: (XP ++ (XO ++ (mpI mb (odF s) ++ l))))))) w := st.perm (by classical exact List.perm_iff_count.2 fun x => by simp only [List.count_append, List.count_cons, List.count_nil, List.append_eq, List.cons_append, List.nil_append, List.append_assoc, Nat.add_zero, Nat.zero_add] <;> ac_rfl)
        refine WL.appL (bx := b184) (ox := 0) (a := k) hlY st ty_mk54 ty_zero31 rfl (by decide) rfl rfl c0 iE_one (by omega) (by omega) rfl rfl rfl ?_
        intro v' X' w hl' st
        have st : S0 w0 (XL ++ (X' ++ ((b7, Row 28 5 (nth (opL o))) :: moI bm (mrOf s) pv tv mb :: (XP ++ (XO ++ (mpI mb (odF s) ++ l)))))) w := (st.perm (by classical exact List.perm_iff_count.2 fun x => by simp only [List.count_append, List.count_cons, List.count_nil, List.append_eq, List.cons_append, List.nil_append, List.append_assoc, Nat.add_zero, Nat.zero_add] <;> ac_rfl) : S0 w0 ((b184, Row 31 1 (nth [.int .i64 (k : Nat)])) :: (XL ++ (X' ++ ((b7, Row 28 5 (nth (opL o))) :: moI bm (mrOf s) pv tv mb :: (XP ++ (XO ++ (mpI mb (odF s) ++ l))))))) w).drop
        obtain ⟨a', c', b', rfl, -, -, -, -⟩ := hl'.form
        -- R24.4 12 := model.go:192 assign
        refine WL.v (by first | exact r_assign (v := .slice _ _ _) rfl | exact r_assign rfl) rfl rfl rfl ?_
        refine WL.fin hK3461 (fun _ _ h => h) ?_
        -- region 19
        refine WC.region ?_
        -- R19.0 130 := model.go:184 move
        refine WL.v (by first | exact r_move (v := .int _ _) rfl | exact r_move rfl) rfl rfl rfl ?_
        -- R19.1 131 := model.go:184 binOp
        refine WL.v (by first | exact r_add rfl rfl (wi64 (by omega) (by omega)) | exact r_add rfl rfl rfl) rfl rfl rfl ?_
        -- R19.2 13 := model.go:184 assign
        refine WL.v (by first | exact r_assign (v := .int _ _) rfl | exact r_assign rfl) rfl rfl rfl ?_
        refine WL.next hK1 (fun _ _ h => h) (k + 1, _, XL, _, X') ⟨hk', by rw [e1]; exact hlO, by rw [e2]; exact hl', st⟩ (by show 16 - (k + 1) < 16 - k; omega) (by repeat (first | exact sub_nil _ | refine sub_cons rfl rfl ?_))
    · have hrv : rvB s P t r k = false := by
        unfold rvB
        rw [decide_eq_false (p := s.held k r ≠ 0) (fun q => q hh0), List.any_eq_false.2 fun q hq => by
          simp only [Bool.and_eq_true, beq_iff_eq, not_and]
          intro e e2
          have := uniq_t hrel.u hq hpm (e.trans hpt.symm)
          rw [this] at e2; exact hpr e2]
        simp
      have e1 : olL s P t r (k + 1) = olL s P t r k := by rw [eO, hrv]; exact List.append_nil _
      have e2 : yoL s P t r (k + 1) = yoL s P t r k := by rw [eY, hrv]; exact List.append_nil _
      refine WC.seq fun K3466 hK3466 => ?_
      refine WC.seq fun K3467 hK3467 => ?_
      -- region 18
      refine WC.region ?_
      -- R18.0 128 := model.go:184 move
      refine WL.v (by first | exact r_move (v := .int _ _) rfl | exact r_move rfl) rfl rfl rfl ?_
      -- R18.1 129 := model.go:184 binOp
      refine WL.v (by first | exact r_lss rfl rfl (decide_eq_true (by omega)) | exact r_lss rfl rfl (decide_eq_false (by omega)) | exact r_lss rfl rfl rfl) rfl rfl rfl ?_
      refine WL.fin hK3467 (fun _ _ h => h) ?_
      refine WC.condT rfl rfl ?_
      refine WC.skipF hK3466 (fun _ _ h => h) ?_
      refine WC.seq fun K3468 hK3468 => ?_
      refine WC.block ?_
      refine WC.seq fun K3469 hK3469 => ?_
      -- region 20
      refine WC.region ?_
      -- R20.0 132 := model.go:185 move
      refine WL.v (by first | exact r_move (v := .pointer _) rfl | exact r_move rfl) rfl rfl rfl ?_
      -- R20.1 133 := model.go:185 move
      refine WL.v (by first | exact r_move (v := .int _ _) rfl | exact r_move rfl) rfl rfl rfl ?_
      -- R20.2 134 := model.go:185 call
      refine WL.call (r_call ty_call98 rfl) rfl rfl rfl (pl_some hrel.u hip hpt hmm2 hp hX2 st) ?_
      rintro _ w ⟨rfl, st⟩
      -- R20.3 14 := model.go:185 assign
      refine WL.v (by first | exact r_assign (v := .int _ _) rfl | exact r_assign rfl) rfl rfl rfl ?_
      refine WL.fin hK3469 (fun _ _ h => h) ?_
      refine WC.seq fun K3470 hK3470 => ?_
      refine WC.seq fun K3471 hK3471 => ?_
      -- region 21
      refine WC.region ?_
      -- R21.0 135 := model.go:186 move
      refine WL.v (by first | exact r_move (v := .int _ _) rfl | exact r_move rfl) rfl rfl rfl ?_
      -- R21.1 136 := model.go:186 move
      refine WL.v (by first | exact r_move (v := .int _ _) rfl | exact r_move rfl) rfl rfl rfl ?_
      -- R21.2 137 := model.go:186 binOp
      refine WL.v (by exact r_eql rfl rfl (decide_eq_false (by omega))) rfl rfl rfl ?_
      -- R21.3 138 := model.go:186 move
      refine WL.v (by first | exact r_move (v := .bool _) rfl | exact r_move rfl) rfl rfl rfl ?_
      -- R21.4 139 := model.go:186 move
      refine WL.v (by first | exact r_move (v := .pointer _) rfl | exact r_move rfl) rfl rfl rfl ?_
      -- R21.5 140 := model.go:186 move
      refine WL.v (by first | exact r_move (v := .int _ _) rfl | exact r_move rfl) rfl rfl rfl ?_
      -- R21.6 141 := model.go:186 move
      refine WL.v (by first | exact r_move (v := .int _ _) rfl | exact r_move rfl) rfl rfl rfl ?_
      -- R21.7 142 := model.go:186 nilCheck
      refine WL.v (by exact r_nilCheck rfl) rfl rfl rfl ?_
      -- R21.8 143 := model.go:186 fieldAddr
      refine WL.v (by exact r_field ty_fld98_7 rfl) rfl rfl rfl ?_
      -- R21.9 144 := model.go:186 indexAddr
      refine WL.v (by exact r_indexA (j := k) ty_ar45 rfl rfl rfl hk') rfl rfl rfl ?_
      -- R21.10 145 := model.go:186 indexAddr
      refine WL.v (by exact r_indexA (j := r) ty_ar44 rfl rfl rfl hr) rfl rfl rfl ?_
      -- R21.11 146 := model.go:186 load
      refine WL.v (by exact r_load1 (v := .int .i64 (s.held k r : Nat)) ty_one3 rfl (c_mheld (m := mrOf s) hmm2 hk' hr (by omega) st)) rfl rfl rfl ?_
      -- R21.12 147 := model.go:186 binOp
      refine WL.v (by exact r_eql rfl rfl (decide_eq_true (by omega))) rfl rfl rfl ?_
      -- R21.13 148 := model.go:186 move
      refine WL.v (by first | exact r_move (v := .bool _) rfl | exact r_move rfl) rfl rfl rfl ?_
      -- R21.14 149 := model.go:186 move
      refine WL.v (by first | exact r_move (v := .int _ _) rfl | exact r_move rfl) rfl rfl rfl ?_
      -- R21.15 150 := model.go:186 binOp
      refine WL.v (by exact r_lss rfl rfl (decide_eq_false (by omega))) rfl rfl rfl ?_
      -- R21.16 151 := model.go:186 move
      refine WL.v (by first | exact r_move (v := .bool _) rfl | exact r_move rfl) rfl rfl rfl ?_
      -- R21.17 152 := model.go:186 move
      refine WL.v (by first | exact r_move (v := .pointer _) rfl | exact r_move rfl) rfl rfl rfl ?_
      -- R21.18 153 := model.go:186 nilCheck
      refine WL.v (by exact r_nilCheck rfl) rfl rfl rfl ?_
      -- R21.19 154 := model.go:186 fieldAddr
      refine WL.v (by exact r_field ty_fld98_9 rfl) rfl rfl rfl ?_
      -- R21.20 155 := model.go:186 load
      refine WL.v (by exact r_load1 (v := .slice (some ⟨b, 0, none⟩) P.length c) ty_one96 rfl (by rw [← hpv]; exact c_m (m := mrOf s) hmm2 (by decide) rfl st)) rfl rfl rfl ?_
      -- R21.21 156 := model.go:186 move
      refine WL.v (by first | exact r_move (v := .int _ _) rfl | exact r_move rfl) rfl rfl rfl ?_
      -- R21.22 157 := model.go:186 indexAddr
      refine WL.v (by exact r_indexS (j := i) ty_sl96 rfl rfl rfl (by omega)) rfl rfl rfl ?_
      -- R21.23 158 := model.go:186 fieldAddr
      refine WL.v (by exact r_field ty_fld102_1 rfl) rfl rfl rfl ?_
      -- R21.24 159 := model.go:186 load
      refine WL.v (by exact r_load1 (v := .int .i64 (p.r : Nat)) ty_one77 rfl (c_pq (j := 1) (a := none) hcell hX2 hip (by decide) st)) rfl rfl rfl ?_
      -- R21.25 160 := model.go:186 move
      refine WL.v (by first | exact r_move (v := .int _ _) rfl | exact r_move rfl) rfl rfl rfl ?_
      -- R21.26 161 := model.go:186 binOp
      refine WL.v (by exact r_neq rfl rfl (decide_eq_true (by omega))) rfl rfl rfl ?_
      -- R21.27 162 := model.go:186 pick
      refine WL.v (by first | exact r_pickT (v := .bool _) rfl rfl | exact r_pickF (v := .bool _) rfl rfl) rfl rfl rfl ?_
      -- R21.28 163 := model.go:186 pick
      refine WL.v (by first | exact r_pickT (v := .bool _) rfl rfl | exact r_pickF (v := .bool _) rfl rfl) rfl rfl rfl ?_
      -- R21.29 164 := model.go:186 pick
      refine WL.v (by first | exact r_pickT (v := .bool _) rfl rfl | exact r_pickF (v := .bool _) rfl rfl) rfl rfl rfl ?_
      refine WL.fin hK3471 (fun _ _ h => h) ?_
      refine WC.condT rfl rfl ?_
      refine WC.exitF hK3468 (fun _ _ h => h) ?_
      -- region 19
      refine WC.region ?_
      -- R19.0 130 := model.go:184 move
      refine WL.v (by first | exact r_move (v := .int _ _) rfl | exact r_move rfl) rfl rfl rfl ?_
      -- R19.1 131 := model.go:184 binOp
      refine WL.v (by first | exact r_add rfl rfl (wi64 (by omega) (by omega)) | exact r_add rfl rfl rfl) rfl rfl rfl ?_
      -- R19.2 13 := model.go:184 assign
      refine WL.v (by first | exact r_assign (v := .int _ _) rfl | exact r_assign rfl) rfl rfl rfl ?_
      refine WL.next hK1 (fun _ _ h => h) (k + 1, _, XL, _, XM) ⟨hk', by rw [e1]; exact hlO, by rw [e2]; exact hlY, st⟩ (by show 16 - (k + 1) < 16 - k; omega) (by repeat (first | exact sub_nil _ | refine sub_cons rfl rfl ?_))
  subst hke
  have hdie := ol_dies hrel hr ht
  have hol : ∀ {I : List HI}, LO 31 1 iE (.slice aO (olL s P t r 16).length cO) (olL s P t r 16) XL := hlO
  rcases hd : (judgeS s t r).1 with _ | _
  rotate_left
  · obtain ⟨hm1, hlp⟩ := hdie.2 hd
    have ea : acq3 s t r u tim = (wakeP (abortP s t), 3) := by unfold acq3; rw [hd]; rfl
    rw [ea] at eA
    have hcA : Core [] s (abortP s t) := .abort (.refl s) t ht
    refine WC.seq fun K3472 hK3472 => ?_
    refine WC.seq fun K3473 hK3473 => ?_
    -- region 18
    refine WC.region ?_
    -- R18.0 128 := model.go:184 move
    refine WL.v (by first | exact r_move (v := .int _ _) rfl | exact r_move rfl) rfl rfl rfl ?_
    -- R18.1 129 := model.go:184 binOp
    refine WL.v (by first | exact r_lss rfl rfl (decide_eq_true (by omega)) | exact r_lss rfl rfl (decide_eq_false (by omega)) | exact r_lss rfl rfl rfl) rfl rfl rfl ?_
    refine WL.fin hK3473 (fun _ _ h => h) ?_
    refine WC.condF rfl rfl ?_
    refine WC.exitF hK3404 (fun _ _ h => h) ?_
    refine WC.seq fun K3474 hK3474 => ?_
    refine WC.seq fun K3475 hK3475 => ?_
    -- region 25
    refine WC.region ?_
    -- R25.0 186 := model.go:195 move
    refine WL.v (by first | exact r_move (v := .pointer _) rfl | exact r_move rfl) rfl rfl rfl ?_
    -- R25.1 187 := model.go:195 nilCheck
    refine WL.v (by exact r_nilCheck rfl) rfl rfl rfl ?_
    -- R25.2 188 := model.go:195 fieldAddr
    refine WL.v (by exact r_field ty_fld98_0 rfl) rfl rfl rfl ?_
    -- R25.3 189 := model.go:195 load
    refine WL.v (by exact r_load1 (v := .int .i64 (s.mode : Nat)) ty_one40 rfl (c_m (m := mrOf s) hmm2 (by decide) rfl st)) rfl rfl rfl ?_
    -- R25.4 190 := model.go:195 binOp
    refine WL.v (by exact r_eql rfl rfl (decide_eq_true (by omega))) rfl rfl rfl ?_
    -- R25.5 191 := model.go:195 move
    refine WL.v (by first | exact r_move (v := .bool _) rfl | exact r_move rfl) rfl rfl rfl ?_
    -- R25.6 192 := model.go:195 move
    refine WL.v (by first | exact r_move (v := .slice _ _ _) rfl | exact r_move rfl) rfl rfl rfl ?_
    -- R25.7 193 := model.go:195 call
    refine WL.v (by exact r_len ty_usl54 rfl) rfl rfl rfl ?_
    -- R25.8 194 := model.go:195 binOp
    refine WL.v (by exact r_gtr rfl rfl (decide_eq_true (by omega))) rfl rfl rfl ?_
    -- R25.9 195 := model.go:195 pick
    refine WL.v (by first | exact r_pickT (v := .bool _) rfl rfl | exact r_pickF (v := .bool _) rfl rfl) rfl rfl rfl ?_
    refine WL.fin hK3475 (fun _ _ h => h) ?_
    refine WC.condT rfl rfl ?_
    refine WC.seq fun K3476 hK3476 => ?_
    -- region 26
    refine WC.region ?_
    -- R26.0 196 := model.go:196 move
    refine WL.v (by first | exact r_move (v := .pointer _) rfl | exact r_move rfl) rfl rfl rfl ?_
    -- R26.1 197 := model.go:196 move
    refine WL.v (by first | exact r_move (v := .int _ _) rfl | exact r_move rfl) rfl rfl rfl ?_
    -- R26.2 198 := model.go:196 call
    refine WL.call (r_call ty_call126 rfl) rfl rfl rfl (rollBackM_ok (l := l) ht hB (by omega) hI hrel ⟨pv, XP, tv, XO, hp, ho, (st_dropL (st_dropL st)).drop⟩) ?_
    rintro _ w ⟨rfl, st⟩
    refine WL.fin hK3476 (fun _ _ h => h) ?_
    refine WC.seq fun K3477 hK3477 => ?_
    -- region 27
    refine WC.region ?_
    -- R27.0 199 := model.go:197 move
    refine WL.v (by first | exact r_move (v := .pointer _) rfl | exact r_move rfl) rfl rfl rfl ?_
    -- R27.1 200 := model.go:197 call
    refine WL.call (r_call ty_call123 rfl) rfl rfl rfl (settle_ok hD hB.abort (by omega) (hcA.inv hI) hct hrel.abort st) ?_
    rintro _ w ⟨rfl, P', hrel', st⟩
    refine WL.fin hK3477 (fun _ _ h => h) ?_
    refine WC.seq fun K3478 hK3478 => ?_
    -- region 28
    refine WC.region ?_
    -- R28.0 8 := model.go:198 assign
    refine WL.v (by first | exact r_assign (v := .int _ _) rfl | exact r_assign rfl) rfl rfl rfl ?_
    refine WL.fin hK3478 (fun _ _ h => h) ?_
    refine WC.ret1 Tryz.results129 (fun _ _ h => h) rfl ?_
    exact ⟨_, rfl, by rw [eA]; rfl, P', by rw [eA]; exact hrel', by rw [eA]; exact st⟩
  have hnd : ¬ (s.mode = 1 ∧ 0 < (olL s P t r 16).length) := fun k => by rw [hdie.1 k] at hd; cases hd
  refine WC.seq fun K3479 hK3479 => ?_
  refine WC.seq fun K3480 hK3480 => ?_
  -- region 18
  refine WC.region ?_
  -- R18.0 128 := model.go:184 move
  refine WL.v (by first | exact r_move (v := .int _ _) rfl | exact r_move rfl) rfl rfl rfl ?_
  -- R18.1 129 := model.go:184 binOp
  refine WL.v (by first | exact r_lss rfl rfl (decide_eq_true (by omega)) | exact r_lss rfl rfl (decide_eq_false (by omega)) | exact r_lss rfl rfl rfl) rfl rfl rfl ?_
  refine WL.fin hK3480 (fun _ _ h => h) ?_
  refine WC.condF rfl rfl ?_
  refine WC.exitF hK3404 (fun _ _ h => h) ?_
  refine WC.cut (ι := Unit) (fun _ => [(0, .pointer (some ⟨bm, 0, none⟩)), (1, .int .i64 (t : Nat)), (2, .int .i64 (r : Nat)), (7, .pointer (some ⟨b7, 0, none⟩)), (10, .int .i64 (u : Nat)), (12, .slice aY (yoL s P t r 16).length cY)]) (fun _ w' => S0 w0 (XM ++ ((b7, Row 28 5 (nth (opL o))) :: moI bm (mrOf s) pv tv mb :: (XP ++ (XO ++ (mpI mb (odF s) ++ l))))) w') ?_ ?_
  rotate_left
  · intro KC hKC
    by_cases hm1 : s.mode = 1
    · skip
      refine WC.seq fun K3481 hK3481 => ?_
      -- region 25
      refine WC.region ?_
      -- R25.0 186 := model.go:195 move
      refine WL.v (by first | exact r_move (v := .pointer _) rfl | exact r_move rfl) rfl rfl rfl ?_
      -- R25.1 187 := model.go:195 nilCheck
      refine WL.v (by exact r_nilCheck rfl) rfl rfl rfl ?_
      -- R25.2 188 := model.go:195 fieldAddr
      refine WL.v (by exact r_field ty_fld98_0 rfl) rfl rfl rfl ?_
      -- R25.3 189 := model.go:195 load
      refine WL.v (by exact r_load1 (v := .int .i64 (s.mode : Nat)) ty_one40 rfl (c_m (m := mrOf s) hmm2 (by decide) rfl st)) rfl rfl rfl ?_
      -- R25.4 190 := model.go:195 binOp
      refine WL.v (by exact r_eql rfl rfl (decide_eq_true (by omega))) rfl rfl rfl ?_
      -- R25.5 191 := model.go:195 move
      refine WL.v (by first | exact r_move (v := .bool _) rfl | exact r_move rfl) rfl rfl rfl ?_
      -- R25.6 192 := model.go:195 move
      refine WL.v (by first | exact r_move (v := .slice _ _ _) rfl | exact r_move rfl) rfl rfl rfl ?_
      -- R25.7 193 := model.go:195 call
      refine WL.v (by exact r_len ty_usl54 rfl) rfl rfl rfl ?_
      -- R25.8 194 := model.go:195 binOp
      refine WL.v (by exact r_gtr rfl rfl (decide_eq_false (by have := fun k => hnd ⟨hm1, k⟩; omega))) rfl rfl rfl ?_
      -- R25.9 195 := model.go:195 pick
      refine WL.v (by first | exact r_pickT (v := .bool _) rfl rfl | exact r_pickF (v := .bool _) rfl rfl) rfl rfl rfl ?_
      refine WL.fin hK3481 (fun _ _ h => h) ?_
      refine WC.condF rfl rfl ?_
      refine WC.skipJ hKC (fun _ _ h => h) () (st_dropL st) (by repeat (first | exact sub_nil _ | refine sub_cons rfl rfl ?_))
    · skip
      refine WC.seq fun K3482 hK3482 => ?_
      -- region 25
      refine WC.region ?_
      -- R25.0 186 := model.go:195 move
      refine WL.v (by first | exact r_move (v := .pointer _) rfl | exact r_move rfl) rfl rfl rfl ?_
      -- R25.1 187 := model.go:195 nilCheck
      refine WL.v (by exact r_nilCheck rfl) rfl rfl rfl ?_
      -- R25.2 188 := model.go:195 fieldAddr
      refine WL.v (by exact r_field ty_fld98_0 rfl) rfl rfl rfl ?_
      -- R25.3 189 := model.go:195 load
      refine WL.v (by exact r_load1 (v := .int .i64 (s.mode : Nat)) ty_one40 rfl (c_m (m := mrOf s) hmm2 (by decide) rfl st)) rfl rfl rfl ?_
      -- R25.4 190 := model.go:195 binOp
      refine WL.v (by exact r_eql rfl rfl (decide_eq_false (by omega))) rfl rfl rfl ?_
      -- R25.5 191 := model.go:195 move
      refine WL.v (by first | exact r_move (v := .bool _) rfl | exact r_move rfl) rfl rfl rfl ?_
      -- R25.6 192 := model.go:195 move
      refine WL.no rfl rfl ?_
      -- R25.7 193 := model.go:195 call
      refine WL.no rfl rfl ?_
      -- R25.8 194 := model.go:195 binOp
      refine WL.no rfl rfl ?_
      -- R25.9 195 := model.go:195 pick
      refine WL.v (by first | exact r_pickT (v := .bool _) rfl rfl | exact r_pickF (v := .bool _) rfl rfl) rfl rfl rfl ?_
      refine WL.fin hK3482 (fun _ _ h => h) ?_
      refine WC.condF rfl rfl ?_
      refine WC.skipJ hKC (fun _ _ h => h) () (st_dropL st) (by repeat (first | exact sub_nil _ | refine sub_cons rfl rfl ?_))
  clear st
  rintro _ w st
  have hmm3 : moI bm (mrOf s) pv tv mb ∈ XM ++ ((b7, Row 28 5 (nth (opL o))) :: moI bm (mrOf s) pv tv mb :: (XP ++ (XO ++ (mpI mb (odF s) ++ l)))) := List.mem_append_right _ hmm'
  obtain ⟨s1, hs1⟩ : ∃ s1, s1 = woundS s (woundL s t r) := ⟨_, rfl⟩
  have hcw : Core [] s s1 := by rw [hs1]; exact Core.wound woundL_lt
  have hI1 := hcw.inv hI
  have hB1 : KB (N + 16) s1 := by
    rw [hs1]; unfold woundS
    split
    · exact hB.mono (by omega)
    · exact (KB.wake (KB_aborts _ hB)).mono (by have := tasksP_len (m := (judgeS s t r).2); unfold woundL; omega)
  have hct1 : CT s1 := fun a b hb => by rw [hcw.sm.claim]; exact hct a b hb
  have hacq1 : (s1.tk t).waiting = false := hcw.row (R := fun T U => T.waiting = false → U.waiting = false) (fun _ h => h) (fun _ _ _ _ => rfl) (fun _ _ _ _ => rfl) t hc.wait
  have hti1 := hti.core' hcw hI
  have hh1 := hB1.held t r
  have hnow1 : s1.now = s.now := hcw.sm.now
  have harm1 : s1.armed = s.armed := hcw.sm.armed
  have hfirst : ∀ {P1 : List PQ}, RelP s1 P1 → (s1.queue r = [] → fiX P1 r = -1) ∧ (s1.queue r ≠ [] → ∃ j : Nat, fiX P1 r = j) := fun {P1} hrel1 => by
    refine ⟨fun h => fiX_none (first_none (by rw [← hrel1.q r hr]; exact h)), fun h => ?_⟩
    cases hQ : s1.queue r with
    | nil => exact absurd hQ h
    | cons q Q =>
      obtain ⟨j, p, hj, hpr, hpq, hjf⟩ := first_of (by rw [← hrel1.q r hr]; exact hQ)
      exact ⟨j, fiX_some hj hpr hjf⟩
  have hsub1 : ∀ {pv1 tv1 : Value} {XP1 XO1 Z : List HI}, XP1 ⊆ moI bm (mrOf s1) pv1 tv1 mb :: (XP1 ++ (XO1 ++ (mpI mb (odF s1) ++ Z))) := fun {_ _ _ _ _} x hx => List.mem_cons_of_mem _ (List.mem_append_left _ hx)
  by_cases hA1 : woundL s t r ≠ [] ∧ atOnceP s1 t r u = true
  · obtain ⟨hWn, hat1⟩ := hA1
    have hm2 : s.mode = 2 := Classical.byContradiction fun k => hWn (wound_mode ht k)
    have hyw := yo_wound hrel hI hbi hr hc hm2
    have hyl : 0 < (yoL s P t r 16).length := by rw [hyw]; exact List.length_pos_iff.2 hWn
    have ea : acq3 s t r u tim = (grant1 s1 t r u, 0) := by unfold acq3; rw [hd, if_neg (by decide), ← hs1, if_pos ⟨hWn, hat1⟩]
    rw [ea] at eA
    unfold atOnceP at hat1
    rw [Bool.and_eq_true] at hat1
    have hq1 : s1.queue r = [] := by simpa using hat1.1
    have had1 := hat1.2
    obtain rfl := haY hyl
    refine WC.seq fun K3483 hK3483 => ?_
    refine WC.seq fun K3484 hK3484 => ?_
    -- region 29
    refine WC.region ?_
    -- R29.0 201 := model.go:200 move
    refine WL.v (by first | exact r_move (v := .pointer _) rfl | exact r_move rfl) rfl rfl rfl ?_
    -- R29.1 202 := model.go:200 nilCheck
    refine WL.v (by exact r_nilCheck rfl) rfl rfl rfl ?_
    -- R29.2 203 := model.go:200 fieldAddr
    refine WL.v (by exact r_field ty_fld98_0 rfl) rfl rfl rfl ?_
    -- R29.3 204 := model.go:200 load
    refine WL.v (by exact r_load1 (v := .int .i64 (s.mode : Nat)) ty_one40 rfl (c_m (m := mrOf s) hmm3 (by decide) rfl st)) rfl rfl rfl ?_
    -- R29.4 205 := model.go:200 binOp
    refine WL.v (by exact r_eql rfl rfl (decide_eq_true (by omega))) rfl rfl rfl ?_
    -- R29.5 206 := model.go:200 move
    refine WL.v (by first | exact r_move (v := .bool _) rfl | exact r_move rfl) rfl rfl rfl ?_
    -- R29.6 207 := model.go:200 move
    refine WL.v (by first | exact r_move (v := .slice _ _ _) rfl | exact r_move rfl) rfl rfl rfl ?_
    -- R29.7 208 := model.go:200 call
    refine WL.v (by exact r_len ty_usl54 rfl) rfl rfl rfl ?_
    -- R29.8 209 := model.go:200 binOp
    refine WL.v (by exact r_gtr rfl rfl (decide_eq_true (by omega))) rfl rfl rfl ?_
    -- R29.9 210 := model.go:200 pick
    refine WL.v (by first | exact r_pickT (v := .bool _) rfl rfl | exact r_pickF (v := .bool _) rfl rfl) rfl rfl rfl ?_
    refine WL.fin hK3484 (fun _ _ h => h) ?_
    refine WC.condT rfl rfl ?_
    refine WC.seq fun K3485 hK3485 => ?_
    refine WC.seq fun K3486 hK3486 => ?_
    -- region 30
    refine WC.region ?_
    -- R30.0 211 := model.go:201 move
    refine WL.v (by first | exact r_move (v := .slice _ _ _) rfl | exact r_move rfl) rfl rfl rfl ?_
    -- R30.1 212 := model.go:201 call
    refine WL.v (by exact r_len ty_usl54 rfl) rfl rfl rfl ?_
    -- R30.2 213 := model.go:201 move
    refine WL.v (by first | exact r_move (v := .int _ _) rfl | exact r_move rfl) rfl rfl rfl ?_
    refine WL.fin hK3486 (fun _ _ h => h) ?_
    refine WC.block ?_
    refine WC.loop (ι := Nat × List PQ) (fun y => [(0, .pointer (some ⟨bm, 0, none⟩)), (1, .int .i64 (t : Nat)), (2, .int .i64 (r : Nat)), (7, .pointer (some ⟨b7, 0, none⟩)), (10, .int .i64 (u : Nat)), (211, .slice (some ⟨bY, 0, none⟩) (yoL s P t r 16).length cY), (212, .int .i64 ((yoL s P t r 16).length : Nat)), (213, .int .i64 (y.1 : Nat))])
      (fun y w' => y.1 ≤ (yoL s P t r 16).length ∧ RelP (((yoL s P t r 16).take y.1).foldl abortP s) y.2 ∧ MK w0 bm mb (((yoL s P t r 16).take y.1).foldl abortP s) y.2 ((b7, Row 28 5 (nth (opL o))) :: (XM ++ l)) w') (fun y => (yoL s P t r 16).length - y.1) (0, P) ⟨Nat.zero_le _, hrel, pv, XP, tv, XO, hp, ho, st.perm (by classical exact List.perm_iff_count.2 fun x => by simp only [List.count_append, List.count_cons, List.count_nil, List.append_eq, List.cons_append, List.nil_append, List.append_assoc, Nat.add_zero, Nat.zero_add] <;> ac_rfl)⟩ ?_ ?_
    · skip
      repeat (first | exact sub_nil _ | refine sub_cons rfl rfl ?_)
    clear st
    rintro ⟨k, P2⟩ w ⟨hk2, hrel2, st⟩ K2 hK2
    dsimp only at hk2 hrel2 st ⊢
    by_cases hke : k = (yoL s P t r 16).length
    rotate_left
    · have hkl' : k < (yoL s P t r 16).length := by omega
      obtain ⟨v, hv⟩ : ∃ v, (yoL s P t r 16)[k]? = some v := ⟨(yoL s P t r 16)[k], List.getElem?_eq_getElem hkl'⟩
      have hv16 : v < 16 := by have := List.mem_of_getElem? hv; rw [hyw] at this; exact woundL_lt v this
      obtain ⟨s2, hs2⟩ : ∃ s2, s2 = ((yoL s P t r 16).take k).foldl abortP s := ⟨_, rfl⟩
      have hnx : ((yoL s P t r 16).take (k + 1)).foldl abortP s = abortP s2 v := by rw [hs2, List.take_add_one, hv, List.foldl_append]; rfl
      rw [← hs2] at hrel2 st
      have hc2 : Core [] s s2 := by rw [hs2]; exact Core.aborts _ fun x hx => by have := List.mem_of_mem_take hx; rw [hyw] at this; exact woundL_lt x this
      have hB2 : KB (N + k) s2 := by
        have := KB_aborts ((yoL s P t r 16).take k) hB
        rw [List.length_take, show min k (yoL s P t r 16).length = k by omega] at this
        rw [hs2]; exact this
      obtain ⟨pv2, XP2, tv2, XO2, hp2, ho2, st⟩ := st
      have hce := hYcell st (fun x hx => by simp only [List.mem_cons, List.mem_append]; exact .inr (.inr (.inr (.inr (.inr (.inl hx)))))) k v hv 0 (by decide)
      refine WC.seq fun K3487 hK3487 => ?_
      -- region 31
      refine WC.region ?_
      -- R31.0 214 := model.go:201 binOp
      refine WL.v (by first | exact r_lss rfl rfl (decide_eq_true (by omega)) | exact r_lss rfl rfl (decide_eq_false (by omega)) | exact r_lss rfl rfl rfl) rfl rfl rfl ?_
      refine WL.fin hK3487 (fun _ _ h => h) ?_
      refine WC.seq fun K3488 hK3488 => ?_
      refine WC.condT rfl rfl ?_
      refine WC.skipF hK3488 (fun _ _ h => h) ?_
      refine WC.seq fun K3489 hK3489 => ?_
      refine WC.block ?_
      refine WC.seq fun K3490 hK3490 => ?_
      -- region 32
      refine WC.region ?_
      -- R32.0 215 := model.go:201 indexAddr
      refine WL.v (by exact r_indexS (j := k) ty_sl54 rfl rfl rfl (by omega)) rfl rfl rfl ?_
      -- R32.1 216 := model.go:201 load
      refine WL.v (by exact r_load1 (v := .int .i64 (v : Nat)) ty_one31 rfl (by rw [Nat.zero_add]; exact hce)) rfl rfl rfl ?_
      -- R32.2 16 := model.go:201 assign
      refine WL.v (by first | exact r_assign (v := .int _ _) rfl | exact r_assign rfl) rfl rfl rfl ?_
      refine WL.fin hK3490 (fun _ _ h => h) ?_
      -- region 33
      refine WC.region ?_
      -- R33.0 217 := model.go:202 move
      refine WL.v (by first | exact r_move (v := .pointer _) rfl | exact r_move rfl) rfl rfl rfl ?_
      -- R33.1 218 := model.go:202 move
      refine WL.v (by first | exact r_move (v := .int _ _) rfl | exact r_move rfl) rfl rfl rfl ?_
      -- R33.2 219 := model.go:202 call
      refine WL.call (r_call ty_call126 rfl) rfl rfl rfl (rollBackM_ok hv16 hB2 (by omega) (hc2.inv hI) hrel2 ⟨pv2, XP2, tv2, XO2, hp2, ho2, st⟩) ?_
      rintro _ w ⟨rfl, st⟩
      refine WL.fin hK3489 (fun _ _ h => h) ?_
      -- region 34
      refine WC.region ?_
      -- R34.0 220 := model.go:201 binOp
      refine WL.v (by first | exact r_add rfl rfl (wi64 (by omega) (by omega)) | exact r_add rfl rfl rfl) rfl rfl rfl ?_
      -- R34.1 213 := model.go:201 move
      refine WL.v (by first | exact r_move (v := .int _ _) rfl | exact r_move rfl) rfl rfl rfl ?_
      refine WL.next hK2 (fun _ _ h => h) (k + 1, noT P2 v) ⟨hkl', by rw [hnx]; exact hrel2.abort, by rw [hnx]; exact st⟩ (by show (yoL s P t r 16).length - (k + 1) < (yoL s P t r 16).length - k; omega) (by repeat (first | exact sub_nil _ | refine sub_cons rfl rfl ?_))
    have ew : s1 = wakeP (((yoL s P t r 16).take k).foldl abortP s) := by rw [hs1, hke, List.take_length, hyw]; exact if_neg hWn
    obtain ⟨s2, hs2⟩ : ∃ s2, s2 = ((yoL s P t r 16).take k).foldl abortP s := ⟨_, rfl⟩
    rw [← hs2] at hrel2 st ew
    have hc2 : Core [] s s2 := by rw [hs2]; exact Core.aborts _ fun x hx => by have := List.mem_of_mem_take hx; rw [hyw] at this; exact woundL_lt x this
    have hB2 : KB (N + k) s2 := by
      have := KB_aborts ((yoL s P t r 16).take k) hB
      rw [List.length_take, show min k (yoL s P t r 16).length = k by omega] at this
      rw [hs2]; exact this
    refine WC.seq fun K3491 hK3491 => ?_
    -- region 31
    refine WC.region ?_
    -- R31.0 214 := model.go:201 binOp
    refine WL.v (by first | exact r_lss rfl rfl (decide_eq_true (by omega)) | exact r_lss rfl rfl (decide_eq_false (by omega)) | exact r_lss rfl rfl rfl) rfl rfl rfl ?_
    refine WL.fin hK3491 (fun _ _ h => h) ?_
    refine WC.seq fun K3492 hK3492 => ?_
    refine WC.condF rfl rfl ?_
    refine WC.exitF hK3485 (fun _ _ h => h) ?_
    refine WC.seq fun K3493 hK3493 => ?_
    -- region 35
    refine WC.region ?_
    -- R35.0 221 := model.go:204 move
    refine WL.v (by first | exact r_move (v := .pointer _) rfl | exact r_move rfl) rfl rfl rfl ?_
    -- R35.1 222 := model.go:204 call
    refine WL.call (r_call ty_call123 rfl) rfl rfl rfl (settle_ok hD hB2 (by omega) (hc2.inv hI) (fun a b hb => by rw [hc2.sm.claim]; exact hct a b hb) hrel2 st) ?_
    rintro _ w ⟨rfl, P1, hrel1, st⟩
    rw [← ew] at hrel1 st
    obtain ⟨pv1, XP1, tv1, XO1, hp1, ho1, st⟩ := st
    refine WL.fin hK3493 (fun _ _ h => h) ?_
    refine WC.seq fun K3494 hK3494 => ?_
    -- region 36
    refine WC.region ?_
    -- R36.0 223 := model.go:205 move
    refine WL.v (by first | exact r_move (v := .pointer _) rfl | exact r_move rfl) rfl rfl rfl ?_
    -- R36.1 224 := model.go:205 move
    refine WL.v (by first | exact r_move (v := .int _ _) rfl | exact r_move rfl) rfl rfl rfl ?_
    -- R36.2 225 := model.go:205 call
    refine WL.call (r_call ty_call157 rfl) rfl rfl rfl (first_ok (r := r) List.mem_cons_self hp1 hsub1 st) ?_
    rintro _ w ⟨he, st⟩
    rw [(hfirst hrel1).1 hq1] at he
    subst he
    -- R36.3 226 := model.go:205 binOp
    refine WL.v (by first | exact r_lss rfl rfl (decide_eq_true (by omega)) | exact r_lss rfl rfl (decide_eq_false (by omega)) | exact r_lss rfl rfl rfl) rfl rfl rfl ?_
    -- R36.4 227 := model.go:205 move
    refine WL.v (by first | exact r_move (v := .bool _) rfl | exact r_move rfl) rfl rfl rfl ?_
    -- R36.5 228 := model.go:205 move
    refine WL.v (by first | exact r_move (v := .pointer _) rfl | exact r_move rfl) rfl rfl rfl ?_
    -- R36.6 229 := model.go:205 move
    refine WL.v (by first | exact r_move (v := .int _ _) rfl | exact r_move rfl) rfl rfl rfl ?_
    -- R36.7 230 := model.go:205 move
    refine WL.v (by first | exact r_move (v := .int _ _) rfl | exact r_move rfl) rfl rfl rfl ?_
    -- R36.8 231 := model.go:205 move
    refine WL.v (by first | exact r_move (v := .int _ _) rfl | exact r_move rfl) rfl rfl rfl ?_
    -- R36.9 232 := model.go:205 call
    refine WL.call (r_call ty_call158 rfl) rfl rfl rfl (mayHave_ok hD ht hr hu16.2 hB1.held hB1.claim hct1 List.mem_cons_self st) ?_
    rintro _ w ⟨he, st⟩
    rw [had1] at he
    subst he
    -- R36.10 233 := model.go:205 pick
    refine WL.v (by first | exact r_pickT (v := .bool _) rfl rfl | exact r_pickF (v := .bool _) rfl rfl) rfl rfl rfl ?_
    refine WL.fin hK3494 (fun _ _ h => h) ?_
    refine WC.condT rfl rfl ?_
    refine WC.seq fun K3495 hK3495 => ?_
    -- region 37 (draws)
    refine WC.tailS 14 st ty_mixed (by kernel_rfl) fun w st Kq hKq => ?_
    -- R37.0 234 := model.go:206 move
    refine SL.v (by first | exact r_move (v := .pointer _) rfl | exact r_move rfl) rfl rfl rfl ?_
    -- R37.1 235 := model.go:206 move
    refine SL.v (by first | exact r_move (v := .int _ _) rfl | exact r_move rfl) rfl rfl rfl ?_
    -- R37.2 236 := model.go:206 move
    refine SL.v (by first | exact r_move (v := .int _ _) rfl | exact r_move rfl) rfl rfl rfl ?_
    -- R37.3 237 := model.go:206 nilCheck
    refine SL.v (by exact r_nilCheck rfl) rfl rfl rfl ?_
    -- R37.4 238 := model.go:206 fieldAddr
    refine SL.v (by exact r_field ty_fld98_7 rfl) rfl rfl rfl ?_
    -- R37.5 239 := model.go:206 indexAddr
    refine SL.v (by exact r_indexA (j := t) ty_ar45 rfl rfl rfl ht) rfl rfl rfl ?_
    -- R37.6 240 := model.go:206 indexAddr
    refine SL.v (by exact r_indexA (j := r) ty_ar44 rfl rfl rfl hr) rfl rfl rfl ?_
    -- R37.7 241 := model.go:206 load
    refine SL.v (by exact r_load1 (v := .int .i64 (s1.held t r : Nat)) ty_one3 rfl (c_mheld (m := mrOf s1) List.mem_cons_self ht hr (by omega) st)) rfl rfl rfl ?_
    -- R37.8 242 := model.go:206 move
    refine SL.v (by first | exact r_move (v := .int _ _) rfl | exact r_move rfl) rfl rfl rfl ?_
    -- R37.9 243 := model.go:206 binOp
    refine SL.v (by exact r_add (r := ((s1.held t r + u : Nat) : Int)) rfl rfl ((wi64 (by omega) (by omega)).trans (by omega))) rfl rfl rfl ?_
    -- R37.10 244 := model.go:206 nilCheck
    refine SL.v (by exact r_nilCheck rfl) rfl rfl rfl ?_
    -- R37.11 245 := model.go:206 fieldAddr
    refine SL.v (by exact r_field ty_fld98_7 rfl) rfl rfl rfl ?_
    -- R37.12 246 := model.go:206 indexAddr
    refine SL.v (by exact r_indexA (j := t) ty_ar45 rfl rfl rfl ht) rfl rfl rfl ?_
    -- R37.13 247 := model.go:206 indexAddr
    refine SL.v (by exact r_indexA (j := r) ty_ar44 rfl rfl rfl hr) rfl rfl rfl ?_
    refine SL.fin hKq ?_
    -- R37.14 None := model.go:206 store
    refine WL.store (v := .int .i64 ((s1.held t r + u : Nat) : Int)) st ty_one3 rfl rfl rfl (by omega) rfl rfl ?_
    intro w st
    have st : S0 w0 (moI bm (mrOf (grant1 s1 t r u)) pv1 tv1 mb :: (XP1 ++ (XO1 ++ (mpI mb (odF s1) ++ ((b7, Row 28 5 (nth (opL o))) :: (XM ++ l)))))) w := stE (mw_held ht hr) st
    have mh : MK w0 bm mb (grant1 s1 t r u) P1 l w := ⟨pv1, XP1, tv1, XO1, hp1, ho1, st_dropL (st.perm (by classical exact List.perm_iff_count.2 fun x => by simp only [List.count_append, List.count_cons, List.count_nil, List.append_eq, List.cons_append, List.nil_append, List.append_assoc, Nat.add_zero, Nat.zero_add] <;> ac_rfl) : S0 w0 (((b7, Row 28 5 (nth (opL o))) :: XM) ++ (moI bm (mrOf (grant1 s1 t r u)) pv1 tv1 mb :: (XP1 ++ (XO1 ++ (mpI mb (odF s1) ++ l))))) w)⟩
    refine WL.fin hK3495 (fun _ _ h => h) ?_
    refine WC.seq fun K3496 hK3496 => ?_
    -- region 38
    refine WC.region ?_
    -- R38.0 8 := model.go:207 assign
    refine WL.v (by first | exact r_assign (v := .int _ _) rfl | exact r_assign rfl) rfl rfl rfl ?_
    refine WL.fin hK3496 (fun _ _ h => h) ?_
    refine WC.ret1 Tryz.results129 (fun _ _ h => h) rfl ?_
    exact ⟨_, rfl, by rw [eA]; rfl, P1, by rw [eA]; exact hrel1.same rfl (fun _ => ⟨rfl, rfl⟩), by rw [eA]; exact mh⟩
  have ea : acq3 s t r u tim = (enqP s1 t r u tim, 1) := by unfold acq3; rw [hd, if_neg (by decide), ← hs1, if_neg hA1]
  rw [ea] at eA
  refine WC.cut (ι := List PQ) (fun _ => [(0, .pointer (some ⟨bm, 0, none⟩)), (1, .int .i64 (t : Nat)), (2, .int .i64 (r : Nat)), (7, .pointer (some ⟨b7, 0, none⟩)), (10, .int .i64 (u : Nat))]) (fun P1 w' => RelP s1 P1 ∧ MK w0 bm mb s1 P1 ((b7, Row 28 5 (nth (opL o))) :: l) w') ?_ ?_
  rotate_left
  · intro KC hKC
    by_cases hWn : woundL s t r = []
    · have e1 : s1 = s := by rw [hs1, hWn]; exact if_pos rfl
      by_cases hm2 : s.mode = 2
      · have hyw := yo_wound hrel hI hbi hr hc hm2
        have hyl : (yoL s P t r 16).length = 0 := by rw [hyw, hWn]; rfl
        refine WC.seq fun K3497 hK3497 => ?_
        -- region 29
        refine WC.region ?_
        -- R29.0 201 := model.go:200 move
        refine WL.v (by first | exact r_move (v := .pointer _) rfl | exact r_move rfl) rfl rfl rfl ?_
        -- R29.1 202 := model.go:200 nilCheck
        refine WL.v (by exact r_nilCheck rfl) rfl rfl rfl ?_
        -- R29.2 203 := model.go:200 fieldAddr
        refine WL.v (by exact r_field ty_fld98_0 rfl) rfl rfl rfl ?_
        -- R29.3 204 := model.go:200 load
        refine WL.v (by exact r_load1 (v := .int .i64 (s.mode : Nat)) ty_one40 rfl (c_m (m := mrOf s) hmm3 (by decide) rfl st)) rfl rfl rfl ?_
        -- R29.4 205 := model.go:200 binOp
        refine WL.v (by exact r_eql rfl rfl (decide_eq_true (by omega))) rfl rfl rfl ?_
        -- R29.5 206 := model.go:200 move
        refine WL.v (by first | exact r_move (v := .bool _) rfl | exact r_move rfl) rfl rfl rfl ?_
        -- R29.6 207 := model.go:200 move
        refine WL.v (by first | exact r_move (v := .slice _ _ _) rfl | exact r_move rfl) rfl rfl rfl ?_
        -- R29.7 208 := model.go:200 call
        refine WL.v (by exact r_len ty_usl54 rfl) rfl rfl rfl ?_
        -- R29.8 209 := model.go:200 binOp
        refine WL.v (by exact r_gtr rfl rfl (decide_eq_false (by omega))) rfl rfl rfl ?_
        -- R29.9 210 := model.go:200 pick
        refine WL.v (by first | exact r_pickT (v := .bool _) rfl rfl | exact r_pickF (v := .bool _) rfl rfl) rfl rfl rfl ?_
        refine WL.fin hK3497 (fun _ _ h => h) ?_
        refine WC.condF rfl rfl ?_
        refine WC.skipJ hKC (fun _ _ h => h) P ⟨by rw [e1]; exact hrel, by rw [e1]; exact ⟨pv, XP, tv, XO, hp, ho, (st_dropL st).perm (by classical exact List.perm_iff_count.2 fun x => by simp only [List.count_append, List.count_cons, List.count_nil, List.append_eq, List.cons_append, List.nil_append, List.append_assoc, Nat.add_zero, Nat.zero_add] <;> ac_rfl)⟩⟩ (by repeat (first | exact sub_nil _ | refine sub_cons rfl rfl ?_))
      · skip
        refine WC.seq fun K3498 hK3498 => ?_
        -- region 29
        refine WC.region ?_
        -- R29.0 201 := model.go:200 move
        refine WL.v (by first | exact r_move (v := .pointer _) rfl | exact r_move rfl) rfl rfl rfl ?_
        -- R29.1 202 := model.go:200 nilCheck
        refine WL.v (by exact r_nilCheck rfl) rfl rfl rfl ?_
        -- R29.2 203 := model.go:200 fieldAddr
        refine WL.v (by exact r_field ty_fld98_0 rfl) rfl rfl rfl ?_
        -- R29.3 204 := model.go:200 load
        refine WL.v (by exact r_load1 (v := .int .i64 (s.mode : Nat)) ty_one40 rfl (c_m (m := mrOf s) hmm3 (by decide) rfl st)) rfl rfl rfl ?_
        -- R29.4 205 := model.go:200 binOp
        refine WL.v (by exact r_eql rfl rfl (decide_eq_false (by omega))) rfl rfl rfl ?_
        -- R29.5 206 := model.go:200 move
        refine WL.v (by first | exact r_move (v := .bool _) rfl | exact r_move rfl) rfl rfl rfl ?_
        -- R29.6 207 := model.go:200 move
        refine WL.no rfl rfl ?_
        -- R29.7 208 := model.go:200 call
        refine WL.no rfl rfl ?_
        -- R29.8 209 := model.go:200 binOp
        refine WL.no rfl rfl ?_
        -- R29.9 210 := model.go:200 pick
        refine WL.v (by first | exact r_pickT (v := .bool _) rfl rfl | exact r_pickF (v := .bool _) rfl rfl) rfl rfl rfl ?_
        refine WL.fin hK3498 (fun _ _ h => h) ?_
        refine WC.condF rfl rfl ?_
        refine WC.skipJ hKC (fun _ _ h => h) P ⟨by rw [e1]; exact hrel, by rw [e1]; exact ⟨pv, XP, tv, XO, hp, ho, (st_dropL st).perm (by classical exact List.perm_iff_count.2 fun x => by simp only [List.count_append, List.count_cons, List.count_nil, List.append_eq, List.cons_append, List.nil_append, List.append_assoc, Nat.add_zero, Nat.zero_add] <;> ac_rfl)⟩⟩ (by repeat (first | exact sub_nil _ | refine sub_cons rfl rfl ?_))
    · have hat1 : atOnceP s1 t r u = false := by
        cases hx : atOnceP s1 t r u with
        | false => rfl
        | true => exact absurd ⟨hWn, hx⟩ hA1
      have hm2 : s.mode = 2 := Classical.byContradiction fun k => hWn (wound_mode ht k)
      have hyw := yo_wound hrel hI hbi hr hc hm2
      have hyl : 0 < (yoL s P t r 16).length := by rw [hyw]; exact List.length_pos_iff.2 hWn
      obtain rfl := haY hyl
      refine WC.seq fun K3499 hK3499 => ?_
      -- region 29
      refine WC.region ?_
      -- R29.0 201 := model.go:200 move
      refine WL.v (by first | exact r_move (v := .pointer _) rfl | exact r_move rfl) rfl rfl rfl ?_
      -- R29.1 202 := model.go:200 nilCheck
      refine WL.v (by exact r_nilCheck rfl) rfl rfl rfl ?_
      -- R29.2 203 := model.go:200 fieldAddr
      refine WL.v (by exact r_field ty_fld98_0 rfl) rfl rfl rfl ?_
      -- R29.3 204 := model.go:200 load
      refine WL.v (by exact r_load1 (v := .int .i64 (s.mode : Nat)) ty_one40 rfl (c_m (m := mrOf s) hmm3 (by decide) rfl st)) rfl rfl rfl ?_
      -- R29.4 205 := model.go:200 binOp
      refine WL.v (by exact r_eql rfl rfl (decide_eq_true (by omega))) rfl rfl rfl ?_
      -- R29.5 206 := model.go:200 move
      refine WL.v (by first | exact r_move (v := .bool _) rfl | exact r_move rfl) rfl rfl rfl ?_
      -- R29.6 207 := model.go:200 move
      refine WL.v (by first | exact r_move (v := .slice _ _ _) rfl | exact r_move rfl) rfl rfl rfl ?_
      -- R29.7 208 := model.go:200 call
      refine WL.v (by exact r_len ty_usl54 rfl) rfl rfl rfl ?_
      -- R29.8 209 := model.go:200 binOp
      refine WL.v (by exact r_gtr rfl rfl (decide_eq_true (by omega))) rfl rfl rfl ?_
      -- R29.9 210 := model.go:200 pick
      refine WL.v (by first | exact r_pickT (v := .bool _) rfl rfl | exact r_pickF (v := .bool _) rfl rfl) rfl rfl rfl ?_
      refine WL.fin hK3499 (fun _ _ h => h) ?_
      refine WC.condT rfl rfl ?_
      refine WC.seq fun K3500 hK3500 => ?_
      refine WC.seq fun K3501 hK3501 => ?_
      -- region 30
      refine WC.region ?_
      -- R30.0 211 := model.go:201 move
      refine WL.v (by first | exact r_move (v := .slice _ _ _) rfl | exact r_move rfl) rfl rfl rfl ?_
      -- R30.1 212 := model.go:201 call
      refine WL.v (by exact r_len ty_usl54 rfl) rfl rfl rfl ?_
      -- R30.2 213 := model.go:201 move
      refine WL.v (by first | exact r_move (v := .int _ _) rfl | exact r_move rfl) rfl rfl rfl ?_
      refine WL.fin hK3501 (fun _ _ h => h) ?_
      refine WC.block ?_
      refine WC.loop (ι := Nat × List PQ) (fun y => [(0, .pointer (some ⟨bm, 0, none⟩)), (1, .int .i64 (t : Nat)), (2, .int .i64 (r : Nat)), (7, .pointer (some ⟨b7, 0, none⟩)), (10, .int .i64 (u : Nat)), (211, .slice (some ⟨bY, 0, none⟩) (yoL s P t r 16).length cY), (212, .int .i64 ((yoL s P t r 16).length : Nat)), (213, .int .i64 (y.1 : Nat))])
        (fun y w' => y.1 ≤ (yoL s P t r 16).length ∧ RelP (((yoL s P t r 16).take y.1).foldl abortP s) y.2 ∧ MK w0 bm mb (((yoL s P t r 16).take y.1).foldl abortP s) y.2 ((b7, Row 28 5 (nth (opL o))) :: (XM ++ l)) w') (fun y => (yoL s P t r 16).length - y.1) (0, P) ⟨Nat.zero_le _, hrel, pv, XP, tv, XO, hp, ho, st.perm (by classical exact List.perm_iff_count.2 fun x => by simp only [List.count_append, List.count_cons, List.count_nil, List.append_eq, List.cons_append, List.nil_append, List.append_assoc, Nat.add_zero, Nat.zero_add] <;> ac_rfl)⟩ ?_ ?_
      · skip
        repeat (first | exact sub_nil _ | refine sub_cons rfl rfl ?_)
      clear st
      rintro ⟨k, P2⟩ w ⟨hk2, hrel2, st⟩ K2 hK2
      dsimp only at hk2 hrel2 st ⊢
      by_cases hke : k = (yoL s P t r 16).length
      rotate_left
      · have hkl' : k < (yoL s P t r 16).length := by omega
        obtain ⟨v, hv⟩ : ∃ v, (yoL s P t r 16)[k]? = some v := ⟨(yoL s P t r 16)[k], List.getElem?_eq_getElem hkl'⟩
        have hv16 : v < 16 := by have := List.mem_of_getElem? hv; rw [hyw] at this; exact woundL_lt v this
        obtain ⟨s2, hs2⟩ : ∃ s2, s2 = ((yoL s P t r 16).take k).foldl abortP s := ⟨_, rfl⟩
        have hnx : ((yoL s P t r 16).take (k + 1)).foldl abortP s = abortP s2 v := by rw [hs2, List.take_add_one, hv, List.foldl_append]; rfl
        rw [← hs2] at hrel2 st
        have hc2 : Core [] s s2 := by rw [hs2]; exact Core.aborts _ fun x hx => by have := List.mem_of_mem_take hx; rw [hyw] at this; exact woundL_lt x this
        have hB2 : KB (N + k) s2 := by
          have := KB_aborts ((yoL s P t r 16).take k) hB
          rw [List.length_take, show min k (yoL s P t r 16).length = k by omega] at this
          rw [hs2]; exact this
        obtain ⟨pv2, XP2, tv2, XO2, hp2, ho2, st⟩ := st
        have hce := hYcell st (fun x hx => by simp only [List.mem_cons, List.mem_append]; exact .inr (.inr (.inr (.inr (.inr (.inl hx)))))) k v hv 0 (by decide)
        refine WC.seq fun K3502 hK3502 => ?_
        -- region 31
        refine WC.region ?_
        -- R31.0 214 := model.go:201 binOp
        refine WL.v (by first | exact r_lss rfl rfl (decide_eq_true (by omega)) | exact r_lss rfl rfl (decide_eq_false (by omega)) | exact r_lss rfl rfl rfl) rfl rfl rfl ?_
        refine WL.fin hK3502 (fun _ _ h => h) ?_
        refine WC.seq fun K3503 hK3503 => ?_
        refine WC.condT rfl rfl ?_
        refine WC.skipF hK3503 (fun _ _ h => h) ?_
        refine WC.seq fun K3504 hK3504 => ?_
        refine WC.block ?_
        refine WC.seq fun K3505 hK3505 => ?_
        -- region 32
        refine WC.region ?_
        -- R32.0 215 := model.go:201 indexAddr
        refine WL.v (by exact r_indexS (j := k) ty_sl54 rfl rfl rfl (by omega)) rfl rfl rfl ?_
        -- R32.1 216 := model.go:201 load
        refine WL.v (by exact r_load1 (v := .int .i64 (v : Nat)) ty_one31 rfl (by rw [Nat.zero_add]; exact hce)) rfl rfl rfl ?_
        -- R32.2 16 := model.go:201 assign
        refine WL.v (by first | exact r_assign (v := .int _ _) rfl | exact r_assign rfl) rfl rfl rfl ?_
        refine WL.fin hK3505 (fun _ _ h => h) ?_
        -- region 33
        refine WC.region ?_
        -- R33.0 217 := model.go:202 move
        refine WL.v (by first | exact r_move (v := .pointer _) rfl | exact r_move rfl) rfl rfl rfl ?_
        -- R33.1 218 := model.go:202 move
        refine WL.v (by first | exact r_move (v := .int _ _) rfl | exact r_move rfl) rfl rfl rfl ?_
        -- R33.2 219 := model.go:202 call
        refine WL.call (r_call ty_call126 rfl) rfl rfl rfl (rollBackM_ok hv16 hB2 (by omega) (hc2.inv hI) hrel2 ⟨pv2, XP2, tv2, XO2, hp2, ho2, st⟩) ?_
        rintro _ w ⟨rfl, st⟩
        refine WL.fin hK3504 (fun _ _ h => h) ?_
        -- region 34
        refine WC.region ?_
        -- R34.0 220 := model.go:201 binOp
        refine WL.v (by first | exact r_add rfl rfl (wi64 (by omega) (by omega)) | exact r_add rfl rfl rfl) rfl rfl rfl ?_
        -- R34.1 213 := model.go:201 move
        refine WL.v (by first | exact r_move (v := .int _ _) rfl | exact r_move rfl) rfl rfl rfl ?_
        refine WL.next hK2 (fun _ _ h => h) (k + 1, noT P2 v) ⟨hkl', by rw [hnx]; exact hrel2.abort, by rw [hnx]; exact st⟩ (by show (yoL s P t r 16).length - (k + 1) < (yoL s P t r 16).length - k; omega) (by repeat (first | exact sub_nil _ | refine sub_cons rfl rfl ?_))
      have ew : s1 = wakeP (((yoL s P t r 16).take k).foldl abortP s) := by rw [hs1, hke, List.take_length, hyw]; exact if_neg hWn
      obtain ⟨s2, hs2⟩ : ∃ s2, s2 = ((yoL s P t r 16).take k).foldl abortP s := ⟨_, rfl⟩
      rw [← hs2] at hrel2 st ew
      have hc2 : Core [] s s2 := by rw [hs2]; exact Core.aborts _ fun x hx => by have := List.mem_of_mem_take hx; rw [hyw] at this; exact woundL_lt x this
      have hB2 : KB (N + k) s2 := by
        have := KB_aborts ((yoL s P t r 16).take k) hB
        rw [List.length_take, show min k (yoL s P t r 16).length = k by omega] at this
        rw [hs2]; exact this
      by_cases hq1 : s1.queue r = []
      · have had1 : admissibleP s1 t r u = false := by unfold atOnceP at hat1; rw [hq1] at hat1; simpa using hat1
        refine WC.seq fun K3506 hK3506 => ?_
        -- region 31
        refine WC.region ?_
        -- R31.0 214 := model.go:201 binOp
        refine WL.v (by first | exact r_lss rfl rfl (decide_eq_true (by omega)) | exact r_lss rfl rfl (decide_eq_false (by omega)) | exact r_lss rfl rfl rfl) rfl rfl rfl ?_
        refine WL.fin hK3506 (fun _ _ h => h) ?_
        refine WC.seq fun K3507 hK3507 => ?_
        refine WC.condF rfl rfl ?_
        refine WC.exitF hK3500 (fun _ _ h => h) ?_
        refine WC.seq fun K3508 hK3508 => ?_
        -- region 35
        refine WC.region ?_
        -- R35.0 221 := model.go:204 move
        refine WL.v (by first | exact r_move (v := .pointer _) rfl | exact r_move rfl) rfl rfl rfl ?_
        -- R35.1 222 := model.go:204 call
        refine WL.call (r_call ty_call123 rfl) rfl rfl rfl (settle_ok hD hB2 (by omega) (hc2.inv hI) (fun a b hb => by rw [hc2.sm.claim]; exact hct a b hb) hrel2 st) ?_
        rintro _ w ⟨rfl, P1, hrel1, st⟩
        rw [← ew] at hrel1 st
        obtain ⟨pv1, XP1, tv1, XO1, hp1, ho1, st⟩ := st
        refine WL.fin hK3508 (fun _ _ h => h) ?_
        refine WC.seq fun K3509 hK3509 => ?_
        -- region 36
        refine WC.region ?_
        -- R36.0 223 := model.go:205 move
        refine WL.v (by first | exact r_move (v := .pointer _) rfl | exact r_move rfl) rfl rfl rfl ?_
        -- R36.1 224 := model.go:205 move
        refine WL.v (by first | exact r_move (v := .int _ _) rfl | exact r_move rfl) rfl rfl rfl ?_
        -- R36.2 225 := model.go:205 call
        refine WL.call (r_call ty_call157 rfl) rfl rfl rfl (first_ok (r := r) List.mem_cons_self hp1 hsub1 st) ?_
        rintro _ w ⟨he, st⟩
        rw [(hfirst hrel1).1 hq1] at he
        subst he
        -- R36.3 226 := model.go:205 binOp
        refine WL.v (by first | exact r_lss rfl rfl (decide_eq_true (by omega)) | exact r_lss rfl rfl (decide_eq_false (by omega)) | exact r_lss rfl rfl rfl) rfl rfl rfl ?_
        -- R36.4 227 := model.go:205 move
        refine WL.v (by first | exact r_move (v := .bool _) rfl | exact r_move rfl) rfl rfl rfl ?_
        -- R36.5 228 := model.go:205 move
        refine WL.v (by first | exact r_move (v := .pointer _) rfl | exact r_move rfl) rfl rfl rfl ?_
        -- R36.6 229 := model.go:205 move
        refine WL.v (by first | exact r_move (v := .int _ _) rfl | exact r_move rfl) rfl rfl rfl ?_
        -- R36.7 230 := model.go:205 move
        refine WL.v (by first | exact r_move (v := .int _ _) rfl | exact r_move rfl) rfl rfl rfl ?_
        -- R36.8 231 := model.go:205 move
        refine WL.v (by first | exact r_move (v := .int _ _) rfl | exact r_move rfl) rfl rfl rfl ?_
        -- R36.9 232 := model.go:205 call
        refine WL.call (r_call ty_call158 rfl) rfl rfl rfl (mayHave_ok hD ht hr hu16.2 hB1.held hB1.claim hct1 List.mem_cons_self st) ?_
        rintro _ w ⟨he, st⟩
        rw [had1] at he
        subst he
        -- R36.10 233 := model.go:205 pick
        refine WL.v (by first | exact r_pickT (v := .bool _) rfl rfl | exact r_pickF (v := .bool _) rfl rfl) rfl rfl rfl ?_
        refine WL.fin hK3509 (fun _ _ h => h) ?_
        refine WC.condF rfl rfl ?_
        refine WC.skipJ hKC (fun _ _ h => h) P1 ⟨hrel1, pv1, XP1, tv1, XO1, hp1, ho1, st_dropL (st.perm (by classical exact List.perm_iff_count.2 fun x => by simp only [List.count_append, List.count_cons, List.count_nil, List.append_eq, List.cons_append, List.nil_append, List.append_assoc, Nat.add_zero, Nat.zero_add] <;> ac_rfl) : S0 w0 (XM ++ (moI bm (mrOf s1) pv1 tv1 mb :: (XP1 ++ (XO1 ++ (mpI mb (odF s1) ++ ((b7, Row 28 5 (nth (opL o))) :: l)))))) _)⟩ (by repeat (first | exact sub_nil _ | refine sub_cons rfl rfl ?_))
      · skip
        refine WC.seq fun K3510 hK3510 => ?_
        -- region 31
        refine WC.region ?_
        -- R31.0 214 := model.go:201 binOp
        refine WL.v (by first | exact r_lss rfl rfl (decide_eq_true (by omega)) | exact r_lss rfl rfl (decide_eq_false (by omega)) | exact r_lss rfl rfl rfl) rfl rfl rfl ?_
        refine WL.fin hK3510 (fun _ _ h => h) ?_
        refine WC.seq fun K3511 hK3511 => ?_
        refine WC.condF rfl rfl ?_
        refine WC.exitF hK3500 (fun _ _ h => h) ?_
        refine WC.seq fun K3512 hK3512 => ?_
        -- region 35
        refine WC.region ?_
        -- R35.0 221 := model.go:204 move
        refine WL.v (by first | exact r_move (v := .pointer _) rfl | exact r_move rfl) rfl rfl rfl ?_
        -- R35.1 222 := model.go:204 call
        refine WL.call (r_call ty_call123 rfl) rfl rfl rfl (settle_ok hD hB2 (by omega) (hc2.inv hI) (fun a b hb => by rw [hc2.sm.claim]; exact hct a b hb) hrel2 st) ?_
        rintro _ w ⟨rfl, P1, hrel1, st⟩
        rw [← ew] at hrel1 st
        obtain ⟨pv1, XP1, tv1, XO1, hp1, ho1, st⟩ := st
        refine WL.fin hK3512 (fun _ _ h => h) ?_
        refine WC.seq fun K3513 hK3513 => ?_
        -- region 36
        refine WC.region ?_
        -- R36.0 223 := model.go:205 move
        refine WL.v (by first | exact r_move (v := .pointer _) rfl | exact r_move rfl) rfl rfl rfl ?_
        -- R36.1 224 := model.go:205 move
        refine WL.v (by first | exact r_move (v := .int _ _) rfl | exact r_move rfl) rfl rfl rfl ?_
        -- R36.2 225 := model.go:205 call
        refine WL.call (r_call ty_call157 rfl) rfl rfl rfl (first_ok (r := r) List.mem_cons_self hp1 hsub1 st) ?_
        rintro _ w ⟨he, st⟩
        obtain ⟨j, hj⟩ := (hfirst hrel1).2 hq1
        rw [hj] at he
        subst he
        -- R36.3 226 := model.go:205 binOp
        refine WL.v (by exact r_lss rfl rfl (decide_eq_false (by omega))) rfl rfl rfl ?_
        -- R36.4 227 := model.go:205 move
        refine WL.v (by first | exact r_move (v := .bool _) rfl | exact r_move rfl) rfl rfl rfl ?_
        -- R36.5 228 := model.go:205 move
        refine WL.no rfl rfl ?_
        -- R36.6 229 := model.go:205 move
        refine WL.no rfl rfl ?_
        -- R36.7 230 := model.go:205 move
        refine WL.no rfl rfl ?_
        -- R36.8 231 := model.go:205 move
        refine WL.no rfl rfl ?_
        -- R36.9 232 := model.go:205 call
        refine WL.no rfl rfl ?_
        -- R36.10 233 := model.go:205 pick
        refine WL.v (by first | exact r_pickT (v := .bool _) rfl rfl | exact r_pickF (v := .bool _) rfl rfl) rfl rfl rfl ?_
        refine WL.fin hK3513 (fun _ _ h => h) ?_
        refine WC.condF rfl rfl ?_
        refine WC.skipJ hKC (fun _ _ h => h) P1 ⟨hrel1, pv1, XP1, tv1, XO1, hp1, ho1, st_dropL (st.perm (by classical exact List.perm_iff_count.2 fun x => by simp only [List.count_append, List.count_cons, List.count_nil, List.append_eq, List.cons_append, List.nil_append, List.append_assoc, Nat.add_zero, Nat.zero_add] <;> ac_rfl) : S0 w0 (XM ++ (moI bm (mrOf s1) pv1 tv1 mb :: (XP1 ++ (XO1 ++ (mpI mb (odF s1) ++ ((b7, Row 28 5 (nth (opL o))) :: l)))))) _)⟩ (by repeat (first | exact sub_nil _ | refine sub_cons rfl rfl ?_))
  clear st
  rintro P1 w ⟨hrel1, st⟩
  obtain ⟨pv1, XP1, tv1, XO1, hp1, ho1, st⟩ := st
  have st : S0 w0 (moI bm (mrOf s1) pv1 tv1 mb :: (b7, Row 28 5 (nth (opL o))) :: (XP1 ++ (XO1 ++ (mpI mb (odF s1) ++ l)))) w := st.perm (by classical exact List.perm_iff_count.2 fun x => by simp only [List.count_append, List.count_cons, List.count_nil, List.append_eq, List.cons_append, List.nil_append, List.append_assoc, Nat.add_zero, Nat.zero_add] <;> ac_rfl)
  have hrelE := hrel1.enq (u := u) (tim := tim) hI1 ht hr hacq1 hti1
  have hnn1 := hB1.nn
  have hplen1 := hrel1.len
  obtain ⟨a1, c1, b1, hpv1, -, -, -, -⟩ := hp1.form
  rcases hk35 with ⟨hk3, htm⟩ | ⟨hk5, htm⟩
  · subst htm
    refine WC.seq fun K3514 hK3514 => ?_
    -- region 39
    refine WC.region ?_
    -- R39.0 248 := model.go:210 move
    refine WL.v (by first | exact r_move (v := .int _ _) rfl | exact r_move rfl) rfl rfl rfl ?_
    -- R39.1 249 := model.go:210 move
    refine WL.v (by first | exact r_move (v := .int _ _) rfl | exact r_move rfl) rfl rfl rfl ?_
    -- R39.2 250 := model.go:210 move
    refine WL.v (by first | exact r_move (v := .int _ _) rfl | exact r_move rfl) rfl rfl rfl ?_
    -- R39.3 251 := model.go:210 build
    refine WL.v (by exact r_build (ps := [(0, .int .i64 (t : Nat)), (1, .int .i64 (r : Nat)), (2, .int .i64 (u : Nat))]) (vs := [.int .i64 (t : Nat), .int .i64 (r : Nat), .int .i64 (u : Nat), .int .u64 ((0 : Nat) : Int), .int .u64 ((0 : Nat) : Int)]) ty_pl102 ty_zero102 rfl rfl) rfl rfl rfl ?_
    -- R39.4 17 := model.go:210 alloc
    refine WL.alloc (m := 5) st ty_zero102 rfl rfl rfl ?_
    intro b17 w st
    -- R39.5 None := model.go:210 store
    first | refine WL.storeW (vs := [_, _, _, _, _]) st ty_agg102 rfl rfl rfl rfl rfl rfl ?_ | refine WL.storeL (vs := [_, _, _, _, _]) st ty_agg102 rfl rfl rfl rfl (by first | decide | omega) rfl rfl ?_ | refine WL.storeW (vs := [_, _, _, _, _]) st.front1 ty_agg102 rfl rfl rfl rfl rfl rfl ?_ | refine WL.storeL (vs := [_, _, _, _, _]) st.front1 ty_agg102 rfl rfl rfl rfl (by first | decide | omega) rfl rfl ?_ | refine WL.storeW (vs := [_, _, _, _, _]) st.front2 ty_agg102 rfl rfl rfl rfl rfl rfl ?_ | refine WL.storeL (vs := [_, _, _, _, _]) st.front2 ty_agg102 rfl rfl rfl rfl (by first | decide | omega) rfl rfl ?_ | refine WL.storeW (vs := [_, _, _, _, _]) st.front3 ty_agg102 rfl rfl rfl rfl rfl rfl ?_ | refine WL.storeL (vs := [_, _, _, _, _]) st.front3 ty_agg102 rfl rfl rfl rfl (by first | decide | omega) rfl rfl ?_ | refine WL.storeW (vs := [_, _, _, _, _]) st.front4 ty_agg102 rfl rfl rfl rfl rfl rfl ?_ | refine WL.storeL (vs := [_, _, _, _, _]) st.front4 ty_agg102 rfl rfl rfl rfl (by first | decide | omega) rfl rfl ?_ | refine WL.storeW (vs := [_, _, _, _, _]) st.front5 ty_agg102 rfl rfl rfl rfl rfl rfl ?_ | refine WL.storeL (vs := [_, _, _, _, _]) st.front5 ty_agg102 rfl rfl rfl rfl (by first | decide | omega) rfl rfl ?_ | refine WL.storeW (vs := [_, _, _, _, _]) st.front6 ty_agg102 rfl rfl rfl rfl rfl rfl ?_ | refine WL.storeL (vs := [_, _, _, _, _]) st.front6 ty_agg102 rfl rfl rfl rfl (by first | decide | omega) rfl rfl ?_ | refine WL.storeW (vs := [_, _, _, _, _]) st.front7 ty_agg102 rfl rfl rfl rfl rfl rfl ?_ | refine WL.storeL (vs := [_, _, _, _, _]) st.front7 ty_agg102 rfl rfl rfl rfl (by first | decide | omega) rfl rfl ?_ | refine WL.storeW (vs := [_, _, _, _, _]) st.front8 ty_agg102 rfl rfl rfl rfl rfl rfl ?_ | refine WL.storeL (vs := [_, _, _, _, _]) st.front8 ty_agg102 rfl rfl rfl rfl (by first | decide | omega) rfl rfl ?_
    intro w st
    refine WL.fin hK3514 (fun _ _ h => h) ?_
    refine WC.seq fun K3515 hK3515 => ?_
    refine WC.seq fun K3516 hK3516 => ?_
    -- region 40
    refine WC.region ?_
    -- R40.0 252 := model.go:211 fieldAddr
    refine WL.v (by exact r_field ty_fld28_0 rfl) rfl rfl rfl ?_
    -- R40.1 253 := model.go:211 load
    refine WL.v (by exact r_load1 (v := .int .u8 (o.kind : Nat)) ty_one25 rfl (st.c2 (by decide))) rfl rfl rfl ?_
    -- R40.2 254 := model.go:211 binOp
    refine WL.v (by exact r_eql rfl rfl (decide_eq_false (by omega))) rfl rfl rfl ?_
    refine WL.fin hK3516 (fun _ _ h => h) ?_
    refine WC.condF rfl rfl ?_
    refine WC.skipF hK3515 (fun _ _ h => h) ?_
    refine WC.seq fun K3517 hK3517 => ?_
    -- region 46 (draws)
    refine WC.heldS2 [7, 8, 9, 10] [1, 2, 3, 4, 5] [0] [6, 7, 8, 9, 10] st (st) ty_mixed (by kernel_rfl) fun w st Kq Kq2 hKq hKq2 => ?_
    -- R46.1 284 := model.go:219 move
    refine HL.v (fun w st => by first | exact r_move (v := .pointer _) rfl | exact r_move rfl) rfl rfl rfl ?_
    -- R46.2 285 := model.go:219 nilCheck
    refine HL.v (fun w st => by exact r_nilCheck rfl) rfl rfl rfl ?_
    -- R46.3 286 := model.go:219 fieldAddr
    refine HL.v (fun w st => by exact r_field ty_fld98_9 rfl) rfl rfl rfl ?_
    -- R46.4 287 := model.go:219 load
    refine HL.v (fun w st => by exact r_load1 (v := .slice a1 P1.length c1) ty_one96 rfl (by rw [← hpv1]; exact c_m (m := mrOf s1) (List.mem_cons_of_mem _ List.mem_cons_self) (by decide) rfl st)) rfl rfl rfl ?_
    -- R46.5 288 := model.go:219 load
    refine HL.v (fun w st => by exact r_loadL (vs := [.int .i64 (t : Nat), .int .i64 (r : Nat), .int .i64 (u : Nat), .int .u64 ((0 : Nat) : Int), .int .u64 ((0 : Nat) : Int)]) ty_agg102 rfl ⟨st.c0 (by decide), st.c0 (by decide), st.c0 (by decide), st.c0 (by decide), st.c0 (by decide), trivial⟩) rfl rfl rfl ?_
    refine HL.pure hKq ?_
    -- R46.0 283 := model.go:219 move
    refine HL.v (fun w _ => by first | exact r_move (v := .pointer _) rfl | exact r_move rfl) rfl rfl rfl ?_
    refine HL.fin hKq2 ?_
    refine TL.at ?_
    -- R46.6 289 := model.go:219 buildSlice
    first | refine WL.mkslice (m := 5) (vs := [.int _ _, .int _ _, .int _ _, .int _ _, .int _ _]) st ty_sl96 ty_zero102 rfl rfl rfl rfl rfl rfl ?_ | refine WL.mkslice (m := 5) (vs := [_, _, _, _, _]) st ty_sl96 ty_zero102 rfl rfl rfl rfl rfl rfl ?_ | refine WL.mkslice st ty_sl96 ty_zero102 rfl rfl rfl rfl rfl rfl ?_
    intro b289 w st
    refine TL.nxt (by first | exact st | exact st.drop | exact st.drop1 | exact st.drop2 | exact st.drop3 | exact st.drop4 | exact st.drop.drop | exact st.drop.drop1 | exact st.drop.drop2 | exact st.drop.drop3 | exact st.drop.drop4 | exact st.drop.drop.drop | exact st.drop.drop.drop.drop | exact st_dropL st | exact st_dropL st.drop | exact st_none st) ?_
    refine TL.at ?_
    -- R46.7 290 := model.go:219 call
    have c0 : ∀ j, j < 5 → w.cell? ⟨b289, 0 + j, none⟩ = some (pE (⟨t, r, u, 0, 0⟩ : PQ) j) := fun j hj => by rw [st.c0 (by omega), Nat.zero_add]; rfl
    have st : S0 w0 (XP1 ++ ((b289, Row 102 5 (nth [.int .i64 (t : Nat), .int .i64 (r : Nat), .int .i64 (u : Nat), .int .u64 ((0 : Nat) : Int), .int .u64 ((0 : Nat) : Int)])) :: (b17, Row 102 5 (nth [.int .i64 (t : Nat), .int .i64 (r : Nat), .int .i64 (u : Nat), .int .u64 ((0 : Nat) : Int), .int .u64 ((0 : Nat) : Int)])) :: moI bm (mrOf s1) pv1 tv1 mb :: (b7, Row 28 5 (nth (opL o))) :: (XO1 ++ (mpI mb (odF s1) ++ l)))) w := st.perm (by classical exact List.perm_iff_count.2 fun x => by simp only [List.count_append, List.count_cons, List.count_nil, List.append_eq, List.cons_append, List.nil_append, List.append_assoc, Nat.add_zero, Nat.zero_add] <;> ac_rfl)
    refine WL.appL (bx := b289) (ox := 0) (a := (⟨t, r, u, 0, 0⟩ : PQ)) (v := .slice a1 P1.length c1) (by rw [← hpv1]; exact hp1) st ty_mk96 ty_zero102 rfl (by decide) rfl rfl c0 pE_one (by omega) (by omega) rfl rfl rfl ?_
    intro v' X' w hp2 st
    obtain ⟨a', c', b', rfl, -, -, -, -⟩ := hp2.form
    have st : S0 w0 (moI bm (mrOf s1) pv1 tv1 mb :: (b17, Row 102 5 (nth [.int .i64 (t : Nat), .int .i64 (r : Nat), .int .i64 (u : Nat), .int .u64 ((0 : Nat) : Int), .int .u64 ((0 : Nat) : Int)])) :: (b7, Row 28 5 (nth (opL o))) :: (X' ++ (XO1 ++ (mpI mb (odF s1) ++ l)))) w := (st.perm (by classical exact List.perm_iff_count.2 fun x => by simp only [List.count_append, List.count_cons, List.count_nil, List.append_eq, List.cons_append, List.nil_append, List.append_assoc, Nat.add_zero, Nat.zero_add] <;> ac_rfl) : S0 w0 ((b289, Row 102 5 (nth [.int .i64 (t : Nat), .int .i64 (r : Nat), .int .i64 (u : Nat), .int .u64 ((0 : Nat) : Int), .int .u64 ((0 : Nat) : Int)])) :: moI bm (mrOf s1) pv1 tv1 mb :: (b17, Row 102 5 (nth [.int .i64 (t : Nat), .int .i64 (r : Nat), .int .i64 (u : Nat), .int .u64 ((0 : Nat) : Int), .int .u64 ((0 : Nat) : Int)])) :: (b7, Row 28 5 (nth (opL o))) :: (X' ++ (XO1 ++ (mpI mb (odF s1) ++ l)))) w).drop
    refine TL.nxt' rfl ?_
    refine TL.at ?_
    -- R46.8 291 := model.go:219 nilCheck
    refine WL.v (by exact r_nilCheck rfl) rfl rfl rfl ?_
    refine TL.nxt' rfl ?_
    refine TL.at ?_
    -- R46.9 292 := model.go:219 fieldAddr
    refine WL.v (by exact r_field ty_fld98_9 rfl) rfl rfl rfl ?_
    refine TL.nxt' rfl ?_
    refine TL.at ?_
    -- R46.10 None := model.go:219 store
    refine WL.store (v := .slice a' _ c') st ty_one96 rfl rfl rfl (by decide) rfl rfl ?_
    intro w st
    have mh : MW w0 bm mb (mrOf s1) (odF s1) (P1 ++ [(⟨t, r, u, 0, 0⟩ : PQ)]) s1.told l w := ⟨_, X', tv1, XO1, hp2, ho1, (stE mw_pend st).drop1.drop1⟩
    refine TL.nxt' rfl ?_
    refine TL.wl ?_
    refine WL.fin hK3517 (fun _ _ h => h) ?_
    refine WC.seq fun K3518 hK3518 => ?_
    -- region 47
    refine WC.region ?_
    -- R47.0 8 := model.go:220 assign
    refine WL.v (by first | exact r_assign (v := .int _ _) rfl | exact r_assign rfl) rfl rfl rfl ?_
    refine WL.fin hK3518 (fun _ _ h => h) ?_
    refine WC.ret1 Tryz.results129 (fun _ _ h => h) rfl ?_
    refine ⟨_, rfl, by rw [eA]; rfl, _, by rw [eA]; exact hrelE, by rw [eA]; unfold MK; rw [mr_enq, od_enq, enq_told]; exact mh⟩
  subst htm
  have hsz : s1.now + o.X < 2 * 18446744073709551616 := by omega
  by_cases hov : s1.now + o.X < 18446744073709551616
  · have hdp : deadP s1.now o.X = (s1.now + o.X) % 18446744073709551616 := by unfold deadP; rw [if_pos hov]; omega
    refine WC.seq fun K3519 hK3519 => ?_
    -- region 39
    refine WC.region ?_
    -- R39.0 248 := model.go:210 move
    refine WL.v (by first | exact r_move (v := .int _ _) rfl | exact r_move rfl) rfl rfl rfl ?_
    -- R39.1 249 := model.go:210 move
    refine WL.v (by first | exact r_move (v := .int _ _) rfl | exact r_move rfl) rfl rfl rfl ?_
    -- R39.2 250 := model.go:210 move
    refine WL.v (by first | exact r_move (v := .int _ _) rfl | exact r_move rfl) rfl rfl rfl ?_
    -- R39.3 251 := model.go:210 build
    refine WL.v (by exact r_build (ps := [(0, .int .i64 (t : Nat)), (1, .int .i64 (r : Nat)), (2, .int .i64 (u : Nat))]) (vs := [.int .i64 (t : Nat), .int .i64 (r : Nat), .int .i64 (u : Nat), .int .u64 ((0 : Nat) : Int), .int .u64 ((0 : Nat) : Int)]) ty_pl102 ty_zero102 rfl rfl) rfl rfl rfl ?_
    -- R39.4 17 := model.go:210 alloc
    refine WL.alloc (m := 5) st ty_zero102 rfl rfl rfl ?_
    intro b17 w st
    -- R39.5 None := model.go:210 store
    first | refine WL.storeW (vs := [_, _, _, _, _]) st ty_agg102 rfl rfl rfl rfl rfl rfl ?_ | refine WL.storeL (vs := [_, _, _, _, _]) st ty_agg102 rfl rfl rfl rfl (by first | decide | omega) rfl rfl ?_ | refine WL.storeW (vs := [_, _, _, _, _]) st.front1 ty_agg102 rfl rfl rfl rfl rfl rfl ?_ | refine WL.storeL (vs := [_, _, _, _, _]) st.front1 ty_agg102 rfl rfl rfl rfl (by first | decide | omega) rfl rfl ?_ | refine WL.storeW (vs := [_, _, _, _, _]) st.front2 ty_agg102 rfl rfl rfl rfl rfl rfl ?_ | refine WL.storeL (vs := [_, _, _, _, _]) st.front2 ty_agg102 rfl rfl rfl rfl (by first | decide | omega) rfl rfl ?_ | refine WL.storeW (vs := [_, _, _, _, _]) st.front3 ty_agg102 rfl rfl rfl rfl rfl rfl ?_ | refine WL.storeL (vs := [_, _, _, _, _]) st.front3 ty_agg102 rfl rfl rfl rfl (by first | decide | omega) rfl rfl ?_ | refine WL.storeW (vs := [_, _, _, _, _]) st.front4 ty_agg102 rfl rfl rfl rfl rfl rfl ?_ | refine WL.storeL (vs := [_, _, _, _, _]) st.front4 ty_agg102 rfl rfl rfl rfl (by first | decide | omega) rfl rfl ?_ | refine WL.storeW (vs := [_, _, _, _, _]) st.front5 ty_agg102 rfl rfl rfl rfl rfl rfl ?_ | refine WL.storeL (vs := [_, _, _, _, _]) st.front5 ty_agg102 rfl rfl rfl rfl (by first | decide | omega) rfl rfl ?_ | refine WL.storeW (vs := [_, _, _, _, _]) st.front6 ty_agg102 rfl rfl rfl rfl rfl rfl ?_ | refine WL.storeL (vs := [_, _, _, _, _]) st.front6 ty_agg102 rfl rfl rfl rfl (by first | decide | omega) rfl rfl ?_ | refine WL.storeW (vs := [_, _, _, _, _]) st.front7 ty_agg102 rfl rfl rfl rfl rfl rfl ?_ | refine WL.storeL (vs := [_, _, _, _, _]) st.front7 ty_agg102 rfl rfl rfl rfl (by first | decide | omega) rfl rfl ?_ | refine WL.storeW (vs := [_, _, _, _, _]) st.front8 ty_agg102 rfl rfl rfl rfl rfl rfl ?_ | refine WL.storeL (vs := [_, _, _, _, _]) st.front8 ty_agg102 rfl rfl rfl rfl (by first | decide | omega) rfl rfl ?_
    intro w st
    refine WL.fin hK3519 (fun _ _ h => h) ?_
    refine WC.seq fun K3520 hK3520 => ?_
    refine WC.seq fun K3521 hK3521 => ?_
    -- region 40
    refine WC.region ?_
    -- R40.0 252 := model.go:211 fieldAddr
    refine WL.v (by exact r_field ty_fld28_0 rfl) rfl rfl rfl ?_
    -- R40.1 253 := model.go:211 load
    refine WL.v (by exact r_load1 (v := .int .u8 (o.kind : Nat)) ty_one25 rfl (st.c2 (by decide))) rfl rfl rfl ?_
    -- R40.2 254 := model.go:211 binOp
    refine WL.v (by exact r_eql rfl rfl (decide_eq_true (by omega))) rfl rfl rfl ?_
    refine WL.fin hK3521 (fun _ _ h => h) ?_
    refine WC.condT rfl rfl ?_
    refine WC.seq fun K3522 hK3522 => ?_
    -- region 41
    refine WC.region ?_
    -- R41.0 255 := model.go:212 move
    refine WL.v (by first | exact r_move (v := .pointer _) rfl | exact r_move rfl) rfl rfl rfl ?_
    -- R41.1 256 := model.go:212 nilCheck
    refine WL.v (by exact r_nilCheck rfl) rfl rfl rfl ?_
    -- R41.2 257 := model.go:212 fieldAddr
    refine WL.v (by exact r_field ty_fld98_3 rfl) rfl rfl rfl ?_
    -- R41.3 258 := model.go:212 load
    refine WL.v (by exact r_load1 (v := .int .u64 (s1.armed : Nat)) ty_one26 rfl (c_m (m := mrOf s1) (List.mem_cons_of_mem _ List.mem_cons_self) (by decide) rfl st)) rfl rfl rfl ?_
    -- R41.4 259 := model.go:212 binOp
    refine WL.v (by exact r_add (r := ((s1.armed + 1 : Nat) : Int)) rfl rfl ((wu64 (by omega) (by omega)).trans (by omega))) rfl rfl rfl ?_
    -- R41.5 260 := model.go:212 nilCheck
    refine WL.v (by exact r_nilCheck rfl) rfl rfl rfl ?_
    -- R41.6 261 := model.go:212 fieldAddr
    refine WL.v (by exact r_field ty_fld98_3 rfl) rfl rfl rfl ?_
    -- R41.7 None := model.go:212 store
    refine WL.store (v := .int .u64 ((s1.armed + 1 : Nat) : Int)) st.front1 ty_one26 rfl rfl rfl (by decide) rfl rfl ?_
    intro w st
    have st : S0 w0 (moI bm { mrOf s1 with timed := s1.armed + 1 } pv1 tv1 mb :: (b17, Row 102 5 (nth [.int .i64 (t : Nat), .int .i64 (r : Nat), .int .i64 (u : Nat), .int .u64 ((0 : Nat) : Int), .int .u64 ((0 : Nat) : Int)])) :: (b7, Row 28 5 (nth (opL o))) :: (XP1 ++ (XO1 ++ (mpI mb (odF s1) ++ l)))) w := stE mw_timed st
    refine WL.fin hK3522 (fun _ _ h => h) ?_
    refine WC.seq fun K3523 hK3523 => ?_
    -- region 42
    refine WC.region ?_
    -- R42.0 262 := model.go:213 move
    refine WL.v (by first | exact r_move (v := .pointer _) rfl | exact r_move rfl) rfl rfl rfl ?_
    -- R42.1 263 := model.go:213 nilCheck
    refine WL.v (by exact r_nilCheck rfl) rfl rfl rfl ?_
    -- R42.2 264 := model.go:213 fieldAddr
    refine WL.v (by exact r_field ty_fld98_3 rfl) rfl rfl rfl ?_
    -- R42.3 265 := model.go:213 load
    refine WL.v (by exact r_load1 (v := .int .u64 ((s1.armed + 1 : Nat) : Int)) ty_one26 rfl (c_m (m := { mrOf s1 with timed := s1.armed + 1 }) List.mem_cons_self (by decide) rfl st)) rfl rfl rfl ?_
    -- R42.4 266 := model.go:213 fieldAddr
    refine WL.v (by exact r_field ty_fld102_4 rfl) rfl rfl rfl ?_
    -- R42.5 None := model.go:213 store
    refine WL.store (v := .int .u64 ((s1.armed + 1 : Nat) : Int)) st.front1 ty_one26 rfl rfl rfl (by decide) rfl rfl ?_
    intro w st
    have st : S0 w0 ((b17, Row 102 5 (nth [.int .i64 (t : Nat), .int .i64 (r : Nat), .int .i64 (u : Nat), .int .u64 ((0 : Nat) : Int), .int .u64 ((s1.armed + 1 : Nat) : Int)])) :: moI bm { mrOf s1 with timed := s1.armed + 1 } pv1 tv1 mb :: (b7, Row 28 5 (nth (opL o))) :: (XP1 ++ (XO1 ++ (mpI mb (odF s1) ++ l)))) w := stE (fun k hk => by match k, hk with | 0, _ | 1, _ | 2, _ | 3, _ | 4, _ => rfl) st
    refine WL.fin hK3523 (fun _ _ h => h) ?_
    refine WC.seq fun K3524 hK3524 => ?_
    -- region 43 (draws)
    refine WC.tailS 8 st ty_mixed (by kernel_rfl) fun w st Kq hKq => ?_
    -- R43.0 267 := model.go:214 move
    refine SL.v (by first | exact r_move (v := .pointer _) rfl | exact r_move rfl) rfl rfl rfl ?_
    -- R43.1 268 := model.go:214 nilCheck
    refine SL.v (by exact r_nilCheck rfl) rfl rfl rfl ?_
    -- R43.2 269 := model.go:214 fieldAddr
    refine SL.v (by exact r_field ty_fld98_1 rfl) rfl rfl rfl ?_
    -- R43.3 270 := model.go:214 load
    refine SL.v (by exact r_load1 (v := .int .u64 (s1.now : Nat)) ty_one26 rfl (c_m (m := { mrOf s1 with timed := s1.armed + 1 }) (List.mem_cons_of_mem _ List.mem_cons_self) (by decide) rfl st)) rfl rfl rfl ?_
    -- R43.4 271 := model.go:214 fieldAddr
    refine SL.v (by exact r_field ty_fld28_4 rfl) rfl rfl rfl ?_
    -- R43.5 272 := model.go:214 load
    refine SL.v (by exact r_load1 (v := .int .u64 (o.X : Nat)) ty_one26 rfl (st.c2 (by decide))) rfl rfl rfl ?_
    -- R43.6 273 := model.go:214 binOp
    refine SL.v (by exact r_add (r := (((s1.now + o.X) % 18446744073709551616 : Nat) : Int)) rfl rfl (by show ((s1.now : Nat) + (o.X : Nat) : Int) % 18446744073709551616 = (((s1.now + o.X) % 18446744073709551616 : Nat) : Int); omega)) rfl rfl rfl ?_
    -- R43.7 274 := model.go:214 fieldAddr
    refine SL.v (by exact r_field ty_fld102_3 rfl) rfl rfl rfl ?_
    refine SL.fin hKq ?_
    -- R43.8 None := model.go:214 store
    refine WL.store (v := .int .u64 (((s1.now + o.X) % 18446744073709551616 : Nat) : Int)) st ty_one26 rfl rfl rfl (by decide) rfl rfl ?_
    intro w st
    have st : S0 w0 ((b17, Row 102 5 (nth [.int .i64 (t : Nat), .int .i64 (r : Nat), .int .i64 (u : Nat), .int .u64 (((s1.now + o.X) % 18446744073709551616 : Nat) : Int), .int .u64 ((s1.armed + 1 : Nat) : Int)])) :: moI bm { mrOf s1 with timed := s1.armed + 1 } pv1 tv1 mb :: (b7, Row 28 5 (nth (opL o))) :: (XP1 ++ (XO1 ++ (mpI mb (odF s1) ++ l)))) w := stE (fun k hk => by match k, hk with | 0, _ | 1, _ | 2, _ | 3, _ | 4, _ => rfl) st
    refine WL.fin hK3524 (fun _ _ h => h) ?_
    refine WC.seq fun K3525 hK3525 => ?_
    -- region 44 (draws)
    refine WC.quietS st ty_mixed (by kernel_rfl) fun Kq hKq => ?_
    -- R44.0 275 := model.go:215 fieldAddr
    refine QL.v (fun w st => by exact r_field ty_fld102_3 rfl) rfl rfl rfl ?_
    -- R44.1 276 := model.go:215 load
    refine QL.v (fun w st => by exact r_load1 (v := .int .u64 (((s1.now + o.X) % 18446744073709551616 : Nat) : Int)) ty_one26 rfl (st.c0 (by decide))) rfl rfl rfl ?_
    -- R44.2 277 := model.go:215 move
    refine QL.v (fun w st => by first | exact r_move (v := .pointer _) rfl | exact r_move rfl) rfl rfl rfl ?_
    -- R44.3 278 := model.go:215 nilCheck
    refine QL.v (fun w st => by exact r_nilCheck rfl) rfl rfl rfl ?_
    -- R44.4 279 := model.go:215 fieldAddr
    refine QL.v (fun w st => by exact r_field ty_fld98_1 rfl) rfl rfl rfl ?_
    -- R44.5 280 := model.go:215 load
    refine QL.v (fun w st => by exact r_load1 (v := .int .u64 (s1.now : Nat)) ty_one26 rfl (c_m (m := { mrOf s1 with timed := s1.armed + 1 }) (List.mem_cons_of_mem _ List.mem_cons_self) (by decide) rfl st)) rfl rfl rfl ?_
    -- R44.6 281 := model.go:215 binOp
    refine QL.v (fun w st => by exact r_lss rfl rfl (decide_eq_false (by omega))) rfl rfl rfl ?_
    refine QL.wl hKq fun w st => ?_
    refine WL.fin hK3525 (fun _ _ h => h) ?_
    refine WC.condF rfl rfl ?_
    refine WC.skipF hK3520 (fun _ _ h => h) ?_
    refine WC.seq fun K3526 hK3526 => ?_
    -- region 46 (draws)
    refine WC.heldS2 [7, 8, 9, 10] [1, 2, 3, 4, 5] [0] [6, 7, 8, 9, 10] st (st) ty_mixed (by kernel_rfl) fun w st Kq Kq2 hKq hKq2 => ?_
    -- R46.1 284 := model.go:219 move
    refine HL.v (fun w st => by first | exact r_move (v := .pointer _) rfl | exact r_move rfl) rfl rfl rfl ?_
    -- R46.2 285 := model.go:219 nilCheck
    refine HL.v (fun w st => by exact r_nilCheck rfl) rfl rfl rfl ?_
    -- R46.3 286 := model.go:219 fieldAddr
    refine HL.v (fun w st => by exact r_field ty_fld98_9 rfl) rfl rfl rfl ?_
    -- R46.4 287 := model.go:219 load
    refine HL.v (fun w st => by exact r_load1 (v := .slice a1 P1.length c1) ty_one96 rfl (by rw [← hpv1]; exact c_m (m := { mrOf s1 with timed := s1.armed + 1 }) (List.mem_cons_of_mem _ List.mem_cons_self) (by decide) rfl st)) rfl rfl rfl ?_
    -- R46.5 288 := model.go:219 load
    refine HL.v (fun w st => by exact r_loadL (vs := [.int .i64 (t : Nat), .int .i64 (r : Nat), .int .i64 (u : Nat), .int .u64 (((s1.now + o.X) % 18446744073709551616 : Nat) : Int), .int .u64 ((s1.armed + 1 : Nat) : Int)]) ty_agg102 rfl ⟨st.c0 (by decide), st.c0 (by decide), st.c0 (by decide), st.c0 (by decide), st.c0 (by decide), trivial⟩) rfl rfl rfl ?_
    refine HL.pure hKq ?_
    -- R46.0 283 := model.go:219 move
    refine HL.v (fun w _ => by first | exact r_move (v := .pointer _) rfl | exact r_move rfl) rfl rfl rfl ?_
    refine HL.fin hKq2 ?_
    refine TL.at ?_
    -- R46.6 289 := model.go:219 buildSlice
    first | refine WL.mkslice (m := 5) (vs := [.int _ _, .int _ _, .int _ _, .int _ _, .int _ _]) st ty_sl96 ty_zero102 rfl rfl rfl rfl rfl rfl ?_ | refine WL.mkslice (m := 5) (vs := [_, _, _, _, _]) st ty_sl96 ty_zero102 rfl rfl rfl rfl rfl rfl ?_ | refine WL.mkslice st ty_sl96 ty_zero102 rfl rfl rfl rfl rfl rfl ?_
    intro b289 w st
    refine TL.nxt (by first | exact st | exact st.drop | exact st.drop1 | exact st.drop2 | exact st.drop3 | exact st.drop4 | exact st.drop.drop | exact st.drop.drop1 | exact st.drop.drop2 | exact st.drop.drop3 | exact st.drop.drop4 | exact st.drop.drop.drop | exact st.drop.drop.drop.drop | exact st_dropL st | exact st_dropL st.drop | exact st_none st) ?_
    refine TL.at ?_
    -- R46.7 290 := model.go:219 call
    have c0 : ∀ j, j < 5 → w.cell? ⟨b289, 0 + j, none⟩ = some (pE (⟨t, r, u, (s1.now + o.X) % 18446744073709551616, s1.armed + 1⟩ : PQ) j) := fun j hj => by rw [st.c0 (by omega), Nat.zero_add]; rfl
    have st : S0 w0 (XP1 ++ ((b289, Row 102 5 (nth [.int .i64 (t : Nat), .int .i64 (r : Nat), .int .i64 (u : Nat), .int .u64 (((s1.now + o.X) % 18446744073709551616 : Nat) : Int), .int .u64 ((s1.armed + 1 : Nat) : Int)])) :: (b17, Row 102 5 (nth [.int .i64 (t : Nat), .int .i64 (r : Nat), .int .i64 (u : Nat), .int .u64 (((s1.now + o.X) % 18446744073709551616 : Nat) : Int), .int .u64 ((s1.armed + 1 : Nat) : Int)])) :: moI bm { mrOf s1 with timed := s1.armed + 1 } pv1 tv1 mb :: (b7, Row 28 5 (nth (opL o))) :: (XO1 ++ (mpI mb (odF s1) ++ l)))) w := st.perm (by classical exact List.perm_iff_count.2 fun x => by simp only [List.count_append, List.count_cons, List.count_nil, List.append_eq, List.cons_append, List.nil_append, List.append_assoc, Nat.add_zero, Nat.zero_add] <;> ac_rfl)
    refine WL.appL (bx := b289) (ox := 0) (a := (⟨t, r, u, (s1.now + o.X) % 18446744073709551616, s1.armed + 1⟩ : PQ)) (v := .slice a1 P1.length c1) (by rw [← hpv1]; exact hp1) st ty_mk96 ty_zero102 rfl (by decide) rfl rfl c0 pE_one (by omega) (by omega) rfl rfl rfl ?_
    intro v' X' w hp2 st
    obtain ⟨a', c', b', rfl, -, -, -, -⟩ := hp2.form
    have st : S0 w0 (moI bm { mrOf s1 with timed := s1.armed + 1 } pv1 tv1 mb :: (b17, Row 102 5 (nth [.int .i64 (t : Nat), .int .i64 (r : Nat), .int .i64 (u : Nat), .int .u64 (((s1.now + o.X) % 18446744073709551616 : Nat) : Int), .int .u64 ((s1.armed + 1 : Nat) : Int)])) :: (b7, Row 28 5 (nth (opL o))) :: (X' ++ (XO1 ++ (mpI mb (odF s1) ++ l)))) w := (st.perm (by classical exact List.perm_iff_count.2 fun x => by simp only [List.count_append, List.count_cons, List.count_nil, List.append_eq, List.cons_append, List.nil_append, List.append_assoc, Nat.add_zero, Nat.zero_add] <;> ac_rfl) : S0 w0 ((b289, Row 102 5 (nth [.int .i64 (t : Nat), .int .i64 (r : Nat), .int .i64 (u : Nat), .int .u64 (((s1.now + o.X) % 18446744073709551616 : Nat) : Int), .int .u64 ((s1.armed + 1 : Nat) : Int)])) :: moI bm { mrOf s1 with timed := s1.armed + 1 } pv1 tv1 mb :: (b17, Row 102 5 (nth [.int .i64 (t : Nat), .int .i64 (r : Nat), .int .i64 (u : Nat), .int .u64 (((s1.now + o.X) % 18446744073709551616 : Nat) : Int), .int .u64 ((s1.armed + 1 : Nat) : Int)])) :: (b7, Row 28 5 (nth (opL o))) :: (X' ++ (XO1 ++ (mpI mb (odF s1) ++ l)))) w).drop
    refine TL.nxt' rfl ?_
    refine TL.at ?_
    -- R46.8 291 := model.go:219 nilCheck
    refine WL.v (by exact r_nilCheck rfl) rfl rfl rfl ?_
    refine TL.nxt' rfl ?_
    refine TL.at ?_
    -- R46.9 292 := model.go:219 fieldAddr
    refine WL.v (by exact r_field ty_fld98_9 rfl) rfl rfl rfl ?_
    refine TL.nxt' rfl ?_
    refine TL.at ?_
    -- R46.10 None := model.go:219 store
    refine WL.store (v := .slice a' _ c') st ty_one96 rfl rfl rfl (by decide) rfl rfl ?_
    intro w st
    have mh : MW w0 bm mb { mrOf s1 with timed := s1.armed + 1 } (odF s1) (P1 ++ [(⟨t, r, u, (s1.now + o.X) % 18446744073709551616, s1.armed + 1⟩ : PQ)]) s1.told l w := ⟨_, X', tv1, XO1, hp2, ho1, (stE mw_pend st).drop1.drop1⟩
    refine TL.nxt' rfl ?_
    refine TL.wl ?_
    refine WL.fin hK3526 (fun _ _ h => h) ?_
    refine WC.seq fun K3527 hK3527 => ?_
    -- region 47
    refine WC.region ?_
    -- R47.0 8 := model.go:220 assign
    refine WL.v (by first | exact r_assign (v := .int _ _) rfl | exact r_assign rfl) rfl rfl rfl ?_
    refine WL.fin hK3527 (fun _ _ h => h) ?_
    refine WC.ret1 Tryz.results129 (fun _ _ h => h) rfl ?_
    refine ⟨_, rfl, by rw [eA]; rfl, _, by rw [eA]; exact hrelE, by rw [eA]; unfold MK; rw [mr_enq, od_enq, enq_told]; show MW w0 bm mb { mrOf s1 with timed := s1.armed + 1 } (odF s1) (P1 ++ [⟨t, r, u, deadP s1.now o.X, s1.armed + 1⟩]) s1.told l _; rw [hdp]; exact mh⟩
  · have hdp : deadP s1.now o.X = 18446744073709551615 := by unfold deadP; rw [if_neg hov]
    refine WC.seq fun K3528 hK3528 => ?_
    -- region 39
    refine WC.region ?_
    -- R39.0 248 := model.go:210 move
    refine WL.v (by first | exact r_move (v := .int _ _) rfl | exact r_move rfl) rfl rfl rfl ?_
    -- R39.1 249 := model.go:210 move
    refine WL.v (by first | exact r_move (v := .int _ _) rfl | exact r_move rfl) rfl rfl rfl ?_
    -- R39.2 250 := model.go:210 move
    refine WL.v (by first | exact r_move (v := .int _ _) rfl | exact r_move rfl) rfl rfl rfl ?_
    -- R39.3 251 := model.go:210 build
    refine WL.v (by exact r_build (ps := [(0, .int .i64 (t : Nat)), (1, .int .i64 (r : Nat)), (2, .int .i64 (u : Nat))]) (vs := [.int .i64 (t : Nat), .int .i64 (r : Nat), .int .i64 (u : Nat), .int .u64 ((0 : Nat) : Int), .int .u64 ((0 : Nat) : Int)]) ty_pl102 ty_zero102 rfl rfl) rfl rfl rfl ?_
    -- R39.4 17 := model.go:210 alloc
    refine WL.alloc (m := 5) st ty_zero102 rfl rfl rfl ?_
    intro b17 w st
    -- R39.5 None := model.go:210 store
    first | refine WL.storeW (vs := [_, _, _, _, _]) st ty_agg102 rfl rfl rfl rfl rfl rfl ?_ | refine WL.storeL (vs := [_, _, _, _, _]) st ty_agg102 rfl rfl rfl rfl (by first | decide | omega) rfl rfl ?_ | refine WL.storeW (vs := [_, _, _, _, _]) st.front1 ty_agg102 rfl rfl rfl rfl rfl rfl ?_ | refine WL.storeL (vs := [_, _, _, _, _]) st.front1 ty_agg102 rfl rfl rfl rfl (by first | decide | omega) rfl rfl ?_ | refine WL.storeW (vs := [_, _, _, _, _]) st.front2 ty_agg102 rfl rfl rfl rfl rfl rfl ?_ | refine WL.storeL (vs := [_, _, _, _, _]) st.front2 ty_agg102 rfl rfl rfl rfl (by first | decide | omega) rfl rfl ?_ | refine WL.storeW (vs := [_, _, _, _, _]) st.front3 ty_agg102 rfl rfl rfl rfl rfl rfl ?_ | refine WL.storeL (vs := [_, _, _, _, _]) st.front3 ty_agg102 rfl rfl rfl rfl (by first | decide | omega) rfl rfl ?_ | refine WL.storeW (vs := [_, _, _, _, _]) st.front4 ty_agg102 rfl rfl rfl rfl rfl rfl ?_ | refine WL.storeL (vs := [_, _, _, _, _]) st.front4 ty_agg102 rfl rfl rfl rfl (by first | decide | omega) rfl rfl ?_ | refine WL.storeW (vs := [_, _, _, _, _]) st.front5 ty_agg102 rfl rfl rfl rfl rfl rfl ?_ | refine WL.storeL (vs := [_, _, _, _, _]) st.front5 ty_agg102 rfl rfl rfl rfl (by first | decide | omega) rfl rfl ?_ | refine WL.storeW (vs := [_, _, _, _, _]) st.front6 ty_agg102 rfl rfl rfl rfl rfl rfl ?_ | refine WL.storeL (vs := [_, _, _, _, _]) st.front6 ty_agg102 rfl rfl rfl rfl (by first | decide | omega) rfl rfl ?_ | refine WL.storeW (vs := [_, _, _, _, _]) st.front7 ty_agg102 rfl rfl rfl rfl rfl rfl ?_ | refine WL.storeL (vs := [_, _, _, _, _]) st.front7 ty_agg102 rfl rfl rfl rfl (by first | decide | omega) rfl rfl ?_ | refine WL.storeW (vs := [_, _, _, _, _]) st.front8 ty_agg102 rfl rfl rfl rfl rfl rfl ?_ | refine WL.storeL (vs := [_, _, _, _, _]) st.front8 ty_agg102 rfl rfl rfl rfl (by first | decide | omega) rfl rfl ?_
    intro w st
    refine WL.fin hK3528 (fun _ _ h => h) ?_
    refine WC.seq fun K3529 hK3529 => ?_
    refine WC.seq fun K3530 hK3530 => ?_
    -- region 40
    refine WC.region ?_
    -- R40.0 252 := model.go:211 fieldAddr
    refine WL.v (by exact r_field ty_fld28_0 rfl) rfl rfl rfl ?_
    -- R40.1 253 := model.go:211 load
    refine WL.v (by exact r_load1 (v := .int .u8 (o.kind : Nat)) ty_one25 rfl (st.c2 (by decide))) rfl rfl rfl ?_
    -- R40.2 254 := model.go:211 binOp
    refine WL.v (by exact r_eql rfl rfl (decide_eq_true (by omega))) rfl rfl rfl ?_
    refine WL.fin hK3530 (fun _ _ h => h) ?_
    refine WC.condT rfl rfl ?_
    refine WC.seq fun K3531 hK3531 => ?_
    -- region 41
    refine WC.region ?_
    -- R41.0 255 := model.go:212 move
    refine WL.v (by first | exact r_move (v := .pointer _) rfl | exact r_move rfl) rfl rfl rfl ?_
    -- R41.1 256 := model.go:212 nilCheck
    refine WL.v (by exact r_nilCheck rfl) rfl rfl rfl ?_
    -- R41.2 257 := model.go:212 fieldAddr
    refine WL.v (by exact r_field ty_fld98_3 rfl) rfl rfl rfl ?_
    -- R41.3 258 := model.go:212 load
    refine WL.v (by exact r_load1 (v := .int .u64 (s1.armed : Nat)) ty_one26 rfl (c_m (m := mrOf s1) (List.mem_cons_of_mem _ List.mem_cons_self) (by decide) rfl st)) rfl rfl rfl ?_
    -- R41.4 259 := model.go:212 binOp
    refine WL.v (by exact r_add (r := ((s1.armed + 1 : Nat) : Int)) rfl rfl ((wu64 (by omega) (by omega)).trans (by omega))) rfl rfl rfl ?_
    -- R41.5 260 := model.go:212 nilCheck
    refine WL.v (by exact r_nilCheck rfl) rfl rfl rfl ?_
    -- R41.6 261 := model.go:212 fieldAddr
    refine WL.v (by exact r_field ty_fld98_3 rfl) rfl rfl rfl ?_
    -- R41.7 None := model.go:212 store
    refine WL.store (v := .int .u64 ((s1.armed + 1 : Nat) : Int)) st.front1 ty_one26 rfl rfl rfl (by decide) rfl rfl ?_
    intro w st
    have st : S0 w0 (moI bm { mrOf s1 with timed := s1.armed + 1 } pv1 tv1 mb :: (b17, Row 102 5 (nth [.int .i64 (t : Nat), .int .i64 (r : Nat), .int .i64 (u : Nat), .int .u64 ((0 : Nat) : Int), .int .u64 ((0 : Nat) : Int)])) :: (b7, Row 28 5 (nth (opL o))) :: (XP1 ++ (XO1 ++ (mpI mb (odF s1) ++ l)))) w := stE mw_timed st
    refine WL.fin hK3531 (fun _ _ h => h) ?_
    refine WC.seq fun K3532 hK3532 => ?_
    -- region 42
    refine WC.region ?_
    -- R42.0 262 := model.go:213 move
    refine WL.v (by first | exact r_move (v := .pointer _) rfl | exact r_move rfl) rfl rfl rfl ?_
    -- R42.1 263 := model.go:213 nilCheck
    refine WL.v (by exact r_nilCheck rfl) rfl rfl rfl ?_
    -- R42.2 264 := model.go:213 fieldAddr
    refine WL.v (by exact r_field ty_fld98_3 rfl) rfl rfl rfl ?_
    -- R42.3 265 := model.go:213 load
    refine WL.v (by exact r_load1 (v := .int .u64 ((s1.armed + 1 : Nat) : Int)) ty_one26 rfl (c_m (m := { mrOf s1 with timed := s1.armed + 1 }) List.mem_cons_self (by decide) rfl st)) rfl rfl rfl ?_
    -- R42.4 266 := model.go:213 fieldAddr
    refine WL.v (by exact r_field ty_fld102_4 rfl) rfl rfl rfl ?_
    -- R42.5 None := model.go:213 store
    refine WL.store (v := .int .u64 ((s1.armed + 1 : Nat) : Int)) st.front1 ty_one26 rfl rfl rfl (by decide) rfl rfl ?_
    intro w st
    have st : S0 w0 ((b17, Row 102 5 (nth [.int .i64 (t : Nat), .int .i64 (r : Nat), .int .i64 (u : Nat), .int .u64 ((0 : Nat) : Int), .int .u64 ((s1.armed + 1 : Nat) : Int)])) :: moI bm { mrOf s1 with timed := s1.armed + 1 } pv1 tv1 mb :: (b7, Row 28 5 (nth (opL o))) :: (XP1 ++ (XO1 ++ (mpI mb (odF s1) ++ l)))) w := stE (fun k hk => by match k, hk with | 0, _ | 1, _ | 2, _ | 3, _ | 4, _ => rfl) st
    refine WL.fin hK3532 (fun _ _ h => h) ?_
    refine WC.seq fun K3533 hK3533 => ?_
    -- region 43 (draws)
    refine WC.tailS 8 st ty_mixed (by kernel_rfl) fun w st Kq hKq => ?_
    -- R43.0 267 := model.go:214 move
    refine SL.v (by first | exact r_move (v := .pointer _) rfl | exact r_move rfl) rfl rfl rfl ?_
    -- R43.1 268 := model.go:214 nilCheck
    refine SL.v (by exact r_nilCheck rfl) rfl rfl rfl ?_
    -- R43.2 269 := model.go:214 fieldAddr
    refine SL.v (by exact r_field ty_fld98_1 rfl) rfl rfl rfl ?_
    -- R43.3 270 := model.go:214 load
    refine SL.v (by exact r_load1 (v := .int .u64 (s1.now : Nat)) ty_one26 rfl (c_m (m := { mrOf s1 with timed := s1.armed + 1 }) (List.mem_cons_of_mem _ List.mem_cons_self) (by decide) rfl st)) rfl rfl rfl ?_
    -- R43.4 271 := model.go:214 fieldAddr
    refine SL.v (by exact r_field ty_fld28_4 rfl) rfl rfl rfl ?_
    -- R43.5 272 := model.go:214 load
    refine SL.v (by exact r_load1 (v := .int .u64 (o.X : Nat)) ty_one26 rfl (st.c2 (by decide))) rfl rfl rfl ?_
    -- R43.6 273 := model.go:214 binOp
    refine SL.v (by exact r_add (r := (((s1.now + o.X) % 18446744073709551616 : Nat) : Int)) rfl rfl (by show ((s1.now : Nat) + (o.X : Nat) : Int) % 18446744073709551616 = (((s1.now + o.X) % 18446744073709551616 : Nat) : Int); omega)) rfl rfl rfl ?_
    -- R43.7 274 := model.go:214 fieldAddr
    refine SL.v (by exact r_field ty_fld102_3 rfl) rfl rfl rfl ?_
    refine SL.fin hKq ?_
    -- R43.8 None := model.go:214 store
    refine WL.store (v := .int .u64 (((s1.now + o.X) % 18446744073709551616 : Nat) : Int)) st ty_one26 rfl rfl rfl (by decide) rfl rfl ?_
    intro w st
    have st : S0 w0 ((b17, Row 102 5 (nth [.int .i64 (t : Nat), .int .i64 (r : Nat), .int .i64 (u : Nat), .int .u64 (((s1.now + o.X) % 18446744073709551616 : Nat) : Int), .int .u64 ((s1.armed + 1 : Nat) : Int)])) :: moI bm { mrOf s1 with timed := s1.armed + 1 } pv1 tv1 mb :: (b7, Row 28 5 (nth (opL o))) :: (XP1 ++ (XO1 ++ (mpI mb (odF s1) ++ l)))) w := stE (fun k hk => by match k, hk with | 0, _ | 1, _ | 2, _ | 3, _ | 4, _ => rfl) st
    refine WL.fin hK3533 (fun _ _ h => h) ?_
    refine WC.seq fun K3534 hK3534 => ?_
    -- region 44 (draws)
    refine WC.quietS st ty_mixed (by kernel_rfl) fun Kq hKq => ?_
    -- R44.0 275 := model.go:215 fieldAddr
    refine QL.v (fun w st => by exact r_field ty_fld102_3 rfl) rfl rfl rfl ?_
    -- R44.1 276 := model.go:215 load
    refine QL.v (fun w st => by exact r_load1 (v := .int .u64 (((s1.now + o.X) % 18446744073709551616 : Nat) : Int)) ty_one26 rfl (st.c0 (by decide))) rfl rfl rfl ?_
    -- R44.2 277 := model.go:215 move
    refine QL.v (fun w st => by first | exact r_move (v := .pointer _) rfl | exact r_move rfl) rfl rfl rfl ?_
    -- R44.3 278 := model.go:215 nilCheck
    refine QL.v (fun w st => by exact r_nilCheck rfl) rfl rfl rfl ?_
    -- R44.4 279 := model.go:215 fieldAddr
    refine QL.v (fun w st => by exact r_field ty_fld98_1 rfl) rfl rfl rfl ?_
    -- R44.5 280 := model.go:215 load
    refine QL.v (fun w st => by exact r_load1 (v := .int .u64 (s1.now : Nat)) ty_one26 rfl (c_m (m := { mrOf s1 with timed := s1.armed + 1 }) (List.mem_cons_of_mem _ List.mem_cons_self) (by decide) rfl st)) rfl rfl rfl ?_
    -- R44.6 281 := model.go:215 binOp
    refine QL.v (fun w st => by exact r_lss rfl rfl (decide_eq_true (by omega))) rfl rfl rfl ?_
    refine QL.wl hKq fun w st => ?_
    refine WL.fin hK3534 (fun _ _ h => h) ?_
    refine WC.condT rfl rfl ?_
    -- region 45
    refine WC.region ?_
    -- R45.0 282 := model.go:216 fieldAddr
    refine WL.v (by exact r_field ty_fld102_3 rfl) rfl rfl rfl ?_
    -- R45.1 None := model.go:216 store
    refine WL.store (v := .int .u64 ((18446744073709551615 : Nat) : Int)) st ty_one26 rfl rfl rfl (by decide) rfl rfl ?_
    intro w st
    have st : S0 w0 ((b17, Row 102 5 (nth [.int .i64 (t : Nat), .int .i64 (r : Nat), .int .i64 (u : Nat), .int .u64 ((18446744073709551615 : Nat) : Int), .int .u64 ((s1.armed + 1 : Nat) : Int)])) :: moI bm { mrOf s1 with timed := s1.armed + 1 } pv1 tv1 mb :: (b7, Row 28 5 (nth (opL o))) :: (XP1 ++ (XO1 ++ (mpI mb (odF s1) ++ l)))) w := stE (fun k hk => by match k, hk with | 0, _ | 1, _ | 2, _ | 3, _ | 4, _ => rfl) st
    refine WL.fin hK3529 (fun _ _ h => h) ?_
    refine WC.seq fun K3535 hK3535 => ?_
    -- region 46 (draws)
    refine WC.heldS2 [7, 8, 9, 10] [1, 2, 3, 4, 5] [0] [6, 7, 8, 9, 10] st (st) ty_mixed (by kernel_rfl) fun w st Kq Kq2 hKq hKq2 => ?_
    -- R46.1 284 := model.go:219 move
    refine HL.v (fun w st => by first | exact r_move (v := .pointer _) rfl | exact r_move rfl) rfl rfl rfl ?_
    -- R46.2 285 := model.go:219 nilCheck
    refine HL.v (fun w st => by exact r_nilCheck rfl) rfl rfl rfl ?_
    -- R46.3 286 := model.go:219 fieldAddr
    refine HL.v (fun w st => by exact r_field ty_fld98_9 rfl) rfl rfl rfl ?_
    -- R46.4 287 := model.go:219 load
    refine HL.v (fun w st => by exact r_load1 (v := .slice a1 P1.length c1) ty_one96 rfl (by rw [← hpv1]; exact c_m (m := { mrOf s1 with timed := s1.armed + 1 }) (List.mem_cons_of_mem _ List.mem_cons_self) (by decide) rfl st)) rfl rfl rfl ?_
    -- R46.5 288 := model.go:219 load
    refine HL.v (fun w st => by exact r_loadL (vs := [.int .i64 (t : Nat), .int .i64 (r : Nat), .int .i64 (u : Nat), .int .u64 ((18446744073709551615 : Nat) : Int), .int .u64 ((s1.armed + 1 : Nat) : Int)]) ty_agg102 rfl ⟨st.c0 (by decide), st.c0 (by decide), st.c0 (by decide), st.c0 (by decide), st.c0 (by decide), trivial⟩) rfl rfl rfl ?_
    refine HL.pure hKq ?_
    -- R46.0 283 := model.go:219 move
    refine HL.v (fun w _ => by first | exact r_move (v := .pointer _) rfl | exact r_move rfl) rfl rfl rfl ?_
    refine HL.fin hKq2 ?_
    refine TL.at ?_
    -- R46.6 289 := model.go:219 buildSlice
    first | refine WL.mkslice (m := 5) (vs := [.int _ _, .int _ _, .int _ _, .int _ _, .int _ _]) st ty_sl96 ty_zero102 rfl rfl rfl rfl rfl rfl ?_ | refine WL.mkslice (m := 5) (vs := [_, _, _, _, _]) st ty_sl96 ty_zero102 rfl rfl rfl rfl rfl rfl ?_ | refine WL.mkslice st ty_sl96 ty_zero102 rfl rfl rfl rfl rfl rfl ?_
    intro b289 w st
    refine TL.nxt (by first | exact st | exact st.drop | exact st.drop1 | exact st.drop2 | exact st.drop3 | exact st.drop4 | exact st.drop.drop | exact st.drop.drop1 | exact st.drop.drop2 | exact st.drop.drop3 | exact st.drop.drop4 | exact st.drop.drop.drop | exact st.drop.drop.drop.drop | exact st_dropL st | exact st_dropL st.drop | exact st_none st) ?_
    refine TL.at ?_
    -- R46.7 290 := model.go:219 call
    have c0 : ∀ j, j < 5 → w.cell? ⟨b289, 0 + j, none⟩ = some (pE (⟨t, r, u, 18446744073709551615, s1.armed + 1⟩ : PQ) j) := fun j hj => by rw [st.c0 (by omega), Nat.zero_add]; rfl
    have st : S0 w0 (XP1 ++ ((b289, Row 102 5 (nth [.int .i64 (t : Nat), .int .i64 (r : Nat), .int .i64 (u : Nat), .int .u64 ((18446744073709551615 : Nat) : Int), .int .u64 ((s1.armed + 1 : Nat) : Int)])) :: (b17, Row 102 5 (nth [.int .i64 (t : Nat), .int .i64 (r : Nat), .int .i64 (u : Nat), .int .u64 ((18446744073709551615 : Nat) : Int), .int .u64 ((s1.armed + 1 : Nat) : Int)])) :: moI bm { mrOf s1 with timed := s1.armed + 1 } pv1 tv1 mb :: (b7, Row 28 5 (nth (opL o))) :: (XO1 ++ (mpI mb (odF s1) ++ l)))) w := st.perm (by classical exact List.perm_iff_count.2 fun x => by simp only [List.count_append, List.count_cons, List.count_nil, List.append_eq, List.cons_append, List.nil_append, List.append_assoc, Nat.add_zero, Nat.zero_add] <;> ac_rfl)
    refine WL.appL (bx := b289) (ox := 0) (a := (⟨t, r, u, 18446744073709551615, s1.armed + 1⟩ : PQ)) (v := .slice a1 P1.length c1) (by rw [← hpv1]; exact hp1) st ty_mk96 ty_zero102 rfl (by decide) rfl rfl c0 pE_one (by omega) (by omega) rfl rfl rfl ?_
    intro v' X' w hp2 st
    obtain ⟨a', c', b', rfl, -, -, -, -⟩ := hp2.form
    have st : S0 w0 (moI bm { mrOf s1 with timed := s1.armed + 1 } pv1 tv1 mb :: (b17, Row 102 5 (nth [.int .i64 (t : Nat), .int .i64 (r : Nat), .int .i64 (u : Nat), .int .u64 ((18446744073709551615 : Nat) : Int), .int .u64 ((s1.armed + 1 : Nat) : Int)])) :: (b7, Row 28 5 (nth (opL o))) :: (X' ++ (XO1 ++ (mpI mb (odF s1) ++ l)))) w := (st.perm (by classical exact List.perm_iff_count.2 fun x => by simp only [List.count_append, List.count_cons, List.count_nil, List.append_eq, List.cons_append, List.nil_append, List.append_assoc, Nat.add_zero, Nat.zero_add] <;> ac_rfl) : S0 w0 ((b289, Row 102 5 (nth [.int .i64 (t : Nat), .int .i64 (r : Nat), .int .i64 (u : Nat), .int .u64 ((18446744073709551615 : Nat) : Int), .int .u64 ((s1.armed + 1 : Nat) : Int)])) :: moI bm { mrOf s1 with timed := s1.armed + 1 } pv1 tv1 mb :: (b17, Row 102 5 (nth [.int .i64 (t : Nat), .int .i64 (r : Nat), .int .i64 (u : Nat), .int .u64 ((18446744073709551615 : Nat) : Int), .int .u64 ((s1.armed + 1 : Nat) : Int)])) :: (b7, Row 28 5 (nth (opL o))) :: (X' ++ (XO1 ++ (mpI mb (odF s1) ++ l)))) w).drop
    refine TL.nxt' rfl ?_
    refine TL.at ?_
    -- R46.8 291 := model.go:219 nilCheck
    refine WL.v (by exact r_nilCheck rfl) rfl rfl rfl ?_
    refine TL.nxt' rfl ?_
    refine TL.at ?_
    -- R46.9 292 := model.go:219 fieldAddr
    refine WL.v (by exact r_field ty_fld98_9 rfl) rfl rfl rfl ?_
    refine TL.nxt' rfl ?_
    refine TL.at ?_
    -- R46.10 None := model.go:219 store
    refine WL.store (v := .slice a' _ c') st ty_one96 rfl rfl rfl (by decide) rfl rfl ?_
    intro w st
    have mh : MW w0 bm mb { mrOf s1 with timed := s1.armed + 1 } (odF s1) (P1 ++ [(⟨t, r, u, 18446744073709551615, s1.armed + 1⟩ : PQ)]) s1.told l w := ⟨_, X', tv1, XO1, hp2, ho1, (stE mw_pend st).drop1.drop1⟩
    refine TL.nxt' rfl ?_
    refine TL.wl ?_
    refine WL.fin hK3535 (fun _ _ h => h) ?_
    refine WC.seq fun K3536 hK3536 => ?_
    -- region 47
    refine WC.region ?_
    -- R47.0 8 := model.go:220 assign
    refine WL.v (by first | exact r_assign (v := .int _ _) rfl | exact r_assign rfl) rfl rfl rfl ?_
    refine WL.fin hK3536 (fun _ _ h => h) ?_
    refine WC.ret1 Tryz.results129 (fun _ _ h => h) rfl ?_
    refine ⟨_, rfl, by rw [eA]; rfl, _, by rw [eA]; exact hrelE, by rw [eA]; unfold MK; rw [mr_enq, od_enq, enq_told]; show MW w0 bm mb { mrOf s1 with timed := s1.armed + 1 } (odF s1) (P1 ++ [⟨t, r, u, deadP s1.now o.X, s1.armed + 1⟩]) s1.told l _; rw [hdp]; exact mh⟩
end Go.Proofs.Qxb6500834aGreatDoor

