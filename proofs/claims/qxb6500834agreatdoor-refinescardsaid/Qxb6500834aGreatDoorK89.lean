import Derived.Test.Qxb6500834aGreatDoorK88
set_option linter.unusedVariables false
set_option linter.unusedSimpArgs false
set_option maxRecDepth 20000
namespace Go.Proofs.Qxb6500834aGreatDoor
open Go.RowKit Go.E1 Go.Kern
theorem ty_call129 : callT Tryz.prog 129 = true := by kernel_rfl
theorem ty_call93 : callT Tryz.prog 93 = true := by kernel_rfl
theorem ty_fld98_4 : fldOff Tryz.prog 98 4 = some 4 := by kernel_rfl
variable {w0 : World} {l X : List HI} {w : World} {s s' s0 : KS} {t r N n : Nat} {qv qv' : Nat → Value}
variable {P : List PQ} {m : MR} {pv tv v : Value} {mb : Nat → Nat} {bm : Nat} {T : List (Nat × Nat × Nat)} {O : Nat → Nat → Option Nat} {held claim : Nat → Nat → Nat}

/-! The model's call. -/
theorem withinM_ok {v n : Int} (st : S0 w0 l w) :
    Calls Tryz.prog 93 #[.int .i64 v, .int .i64 n] w (Ret fun u w' => u = .bool (wiP v n) ∧ S0 w0 l w') := by
  by_cases h1 : 0 ≤ v
  · have e : wiP v n = decide (v < n) := by unfold wiP; by_cases h : v < n <;> simp [h1, h]
    refine enter [.int .i64 v, .int .i64 n] Tryz.func93 rfl Tryz.ntmps93 rfl ?_
    show WC _ _ _ 12 [] [(0, .int .i64 v), (1, .int .i64 n)] _
    refine WC.seq fun K3537 hK3537 => ?_
    -- region 0
    refine WC.region ?_
    -- R0.0 4 := model.go:50 assign
    refine WL.v (by first | exact r_assign (v := .bool _) rfl | exact r_assign rfl) rfl rfl rfl ?_
    refine WL.fin hK3537 (fun _ _ h => h) ?_
    refine WC.seq fun K3538 hK3538 => ?_
    -- region 1
    refine WC.region ?_
    -- R1.0 5 := model.go:50 move
    refine WL.v (by first | exact r_move (v := .int _ _) rfl | exact r_move rfl) rfl rfl rfl ?_
    -- R1.1 6 := model.go:50 binOp
    refine WL.v (by exact r_leq rfl rfl (decide_eq_true h1)) rfl rfl rfl ?_
    -- R1.2 7 := model.go:50 move
    refine WL.v (by first | exact r_move (v := .bool _) rfl | exact r_move rfl) rfl rfl rfl ?_
    -- R1.3 8 := model.go:50 move
    refine WL.v (by first | exact r_move (v := .int _ _) rfl | exact r_move rfl) rfl rfl rfl ?_
    -- R1.4 9 := model.go:50 move
    refine WL.v (by first | exact r_move (v := .int _ _) rfl | exact r_move rfl) rfl rfl rfl ?_
    -- R1.5 10 := model.go:50 binOp
    refine WL.v (by exact r_lss (t := wiP v n) rfl rfl e.symm) rfl rfl rfl ?_
    -- R1.6 11 := model.go:50 pick
    refine WL.v (by first | exact r_pickT (v := .bool _) rfl rfl | exact r_pickF (v := .bool _) rfl rfl) rfl rfl rfl ?_
    -- R1.7 4 := model.go:50 assign
    refine WL.v (by first | exact r_assign (v := .bool _) rfl | exact r_assign rfl) rfl rfl rfl ?_
    refine WL.fin hK3538 (fun _ _ h => h) ?_
    refine WC.ret1 Tryz.results93 (fun _ _ h => h) rfl ?_
    exact ⟨_, rfl, rfl, st⟩
  · have e : wiP v n = false := by unfold wiP; simp [h1]
    rw [e]
    refine enter [.int .i64 v, .int .i64 n] Tryz.func93 rfl Tryz.ntmps93 rfl ?_
    show WC _ _ _ 12 [] [(0, .int .i64 v), (1, .int .i64 n)] _
    refine WC.seq fun K3539 hK3539 => ?_
    -- region 0
    refine WC.region ?_
    -- R0.0 4 := model.go:50 assign
    refine WL.v (by first | exact r_assign (v := .bool _) rfl | exact r_assign rfl) rfl rfl rfl ?_
    refine WL.fin hK3539 (fun _ _ h => h) ?_
    refine WC.seq fun K3540 hK3540 => ?_
    -- region 1
    refine WC.region ?_
    -- R1.0 5 := model.go:50 move
    refine WL.v (by first | exact r_move (v := .int _ _) rfl | exact r_move rfl) rfl rfl rfl ?_
    -- R1.1 6 := model.go:50 binOp
    refine WL.v (by exact r_leq rfl rfl (decide_eq_false h1)) rfl rfl rfl ?_
    -- R1.2 7 := model.go:50 move
    refine WL.v (by first | exact r_move (v := .bool _) rfl | exact r_move rfl) rfl rfl rfl ?_
    -- R1.3 8 := model.go:50 move
    refine WL.no rfl rfl ?_
    -- R1.4 9 := model.go:50 move
    refine WL.no rfl rfl ?_
    -- R1.5 10 := model.go:50 binOp
    refine WL.no rfl rfl ?_
    -- R1.6 11 := model.go:50 pick
    refine WL.v (by first | exact r_pickT (v := .bool _) rfl rfl | exact r_pickF (v := .bool _) rfl rfl) rfl rfl rfl ?_
    -- R1.7 4 := model.go:50 assign
    refine WL.v (by first | exact r_assign (v := .bool _) rfl | exact r_assign rfl) rfl rfl rfl ?_
    refine WL.fin hK3540 (fun _ _ h => h) ?_
    refine WC.ret1 Tryz.results93 (fun _ _ h => h) rfl ?_
    exact ⟨_, rfl, rfl, st⟩
theorem mr_n {x : Nat} {T : TK} (h1 : T.live = (s.tk t).live) (h2 : T.birth = (s.tk t).birth) (h3 : T.epoch = (s.tk t).epoch) (h4 : T.n = x) : mrOf { s with tk := updN s.tk t T } = { mrOf s with wr := updN (mrOf s).wr t x } := by
  unfold mrOf
  have e1 : (fun a => (updN s.tk t T a).live) = fun a => (s.tk a).live := by
    funext a; unfold updN; split
    · rename_i e; rw [e]; exact h1
    · rfl
  have e2 : (fun a => (updN s.tk t T a).birth) = fun a => (s.tk a).birth := by
    funext a; unfold updN; split
    · rename_i e; rw [e]; exact h2
    · rfl
  have e3 : (fun a => (updN s.tk t T a).epoch) = fun a => (s.tk a).epoch := by
    funext a; unfold updN; split
    · rename_i e; rw [e]; exact h3
    · rfl
  have e4 : (fun a => (updN s.tk t T a).n) = updN (fun a => (s.tk a).n) t x := by
    funext a; unfold updN; split
    · exact h4
    · rfl
  show MR.mk _ _ _ _ (fun a => (updN s.tk t T a).live) (fun a => (updN s.tk t T a).birth) (fun a => (updN s.tk t T a).epoch) _ _ _ (fun a => (updN s.tk t T a).n) = _
  rw [e1, e2, e3, e4]
theorem od_n0 {T : TK} (h : T.n = 0) (h1 : s'.tk = updN s.tk t T) : odF s' = zapO (odF s) t := by
  funext a c
  unfold odF
  rw [h1]
  unfold zapO updN
  split
  · exact old_n0 h
  · rfl
set_option maxHeartbeats 4000000 in
theorem callM8_ok {o : Kern.Op} (hk : o.kind = 8) (hD : gD w0) (hA : o.A = t) (hc : CallOK s t) (hB : KB N s) (hN : N + 100 ≤ 1000000) (hI : INV s) (hct : CT s) (hrel : RelP s P) (st : MK w0 bm mb s P l w) :
    Calls Tryz.prog 99 #[.pointer (some ⟨bm, 0, none⟩), .int .i64 (t : Nat), .agg (opL o).toArray] w (Ret fun v w' => v = .int .i64 (stepP s o).2.1 ∧ ∃ P', RelP (stepP s o).1 P' ∧ MK w0 bm mb (stepP s o).1 P' l w') := by
  obtain ⟨pv, XP, tv, XO, hp, ho, st⟩ := st
  have ht := hc.lt
  have hplen := hrel.len
  have hnn := hB.nn
  obtain ⟨R, hR1, hR2⟩ := mp_at (mb := mb) (D := odF s) ht
  have st : S0 w0 (mpE (mb t) (odF s t) :: (moI bm (mrOf s) pv tv mb :: (XP ++ (XO ++ (R ++ l))))) w := (st.perm ((((hR1.append_right l).append_left XO).append_left XP).cons _) : S0 w0 (moI bm (mrOf s) pv tv mb :: (XP ++ (XO ++ ((mpE (mb t) (odF s t) :: R) ++ l)))) w).perm (by classical exact List.perm_iff_count.2 fun x => by simp only [List.count_append, List.count_cons, List.count_nil, List.append_eq, List.cons_append, List.nil_append, List.append_assoc, Nat.add_zero, Nat.zero_add] <;> ac_rfl)
  have hcal : callerP s (t : Int) = 0 := by
    unfold callerP
    rw [if_neg (by omega), Int.toNat_natCast, hc.live, if_neg (by decide), hc.wait]; rfl
  have hnA : nameP o.A 16 = (t : Int) := by rw [hA]; exact nameP_eq (by omega)
  have eS : stepP s o = ({ s with tk := updN s.tk t { s.tk t with n := 0 } }, 0, -1) := by
    unfold stepP; rw [hk]
    show ((commitP s (nameP o.A 16)).1, (commitP s (nameP o.A 16)).2, (-1 : Int)) = _
    rw [hnA]; unfold commitP; rw [hcal, if_neg (by decide), Int.toNat_natCast]
  refine enter [.pointer (some ⟨bm, 0, none⟩), .int .i64 (t : Nat), .agg (opL o).toArray] Tryz.func99 rfl Tryz.ntmps99 rfl ?_
  show WC _ _ _ 219 [] [(0, .pointer (some ⟨bm, 0, none⟩)), (1, .int .i64 (t : Nat)), (2, .agg (opL o).toArray)] _
  refine WC.seq fun K3541 hK3541 => ?_
  -- region 0
  refine WC.region ?_
  -- R0.0 5 := model.go:101 box
  refine WL.box (m := 5) (vs := opL o) st rfl rfl rfl rfl rfl rfl ?_
  intro b5 w st
  have st : S0 w0 ((b5, Row 28 5 (nth (opL o))) :: mpE (mb t) (odF s t) :: (moI bm (mrOf s) pv tv mb :: (XP ++ (XO ++ (R ++ l))))) w := st
  -- R0.1 6 := model.go:101 assign
  refine WL.v (by first | exact r_assign (v := .int _ _) rfl | exact r_assign rfl) rfl rfl rfl ?_
  refine WL.fin hK3541 (fun _ _ h => h) ?_
  refine WC.seq fun K3542 hK3542 => ?_
  refine WC.seq fun K3543 hK3543 => ?_
  -- region 1
  refine WC.region ?_
  -- R1.0 13 := model.go:102 fieldAddr
  refine WL.v (by exact r_field ty_fld28_0 rfl) rfl rfl rfl ?_
  -- R1.1 14 := model.go:102 load
  refine WL.v (by exact r_load1 (v := .int .u8 (o.kind : Nat)) ty_one25 rfl (st.c0 (by decide))) rfl rfl rfl ?_
  refine WL.fin hK3543 (fun _ _ h => h) ?_
  refine WC.block ?_
  refine WC.seq fun K3544 hK3544 => ?_
  -- region 2
  refine WC.region ?_
  -- R2.0 16 := model.go:103 binOp
  refine WL.v (by exact r_eql rfl rfl (decide_eq_true (by omega))) rfl rfl rfl ?_
  -- R2.1 15 := model.go:103 assign
  refine WL.v (by first | exact r_assign (v := .bool _) rfl | exact r_assign rfl) rfl rfl rfl ?_
  refine WL.fin hK3544 (fun _ _ h => h) ?_
  refine WC.condT rfl rfl ?_
  refine WC.seq fun K3545 hK3545 => ?_
  -- region 3
  refine WC.region ?_
  -- R3.0 17 := model.go:104 move
  refine WL.v (by first | exact r_move (v := .pointer _) rfl | exact r_move rfl) rfl rfl rfl ?_
  -- R3.1 18 := model.go:104 move
  refine WL.v (by first | exact r_move (v := .int _ _) rfl | exact r_move rfl) rfl rfl rfl ?_
  -- R3.2 19 := model.go:104 nilCheck
  refine WL.v (by exact r_nilCheck rfl) rfl rfl rfl ?_
  -- R3.3 20 := model.go:104 fieldAddr
  refine WL.v (by exact r_field ty_fld98_11 rfl) rfl rfl rfl ?_
  -- R3.4 21 := model.go:104 indexAddr
  refine WL.v (by exact r_indexA (j := t) ty_ar73 rfl rfl rfl ht) rfl rfl rfl ?_
  -- R3.5 22 := model.go:104 load
  refine WL.v (by exact r_load1 (v := .map (some (mb t))) ty_one72 rfl (c_mbefore (List.mem_cons_of_mem _ (List.mem_cons_of_mem _ List.mem_cons_self)) ht (by omega) st)) rfl rfl rfl ?_
  -- R3.6 None := model.go:104 call
  refine WL.clearI st.front1 ty_mp72 rfl rfl rfl ?_
  intro w st
  rw [← odV_none] at st
  have st : S0 w0 (mpE (mb t) (fun _ => none) :: (b5, Row 28 5 (nth (opL o))) :: moI bm (mrOf s) pv tv mb :: (XP ++ (XO ++ (R ++ l)))) w := st
  have st : S0 w0 (moI bm (mrOf s) pv tv mb :: (b5, Row 28 5 (nth (opL o))) :: mpE (mb t) (fun _ => none) :: (XP ++ (XO ++ (R ++ l)))) w := st.perm (by classical exact List.perm_iff_count.2 fun x => by simp only [List.count_append, List.count_cons, List.count_nil, List.append_eq, List.cons_append, List.nil_append, List.append_assoc, Nat.add_zero, Nat.zero_add] <;> ac_rfl)
  refine WL.fin hK3545 (fun _ _ h => h) ?_
  refine WC.seq fun K3546 hK3546 => ?_
  -- region 4
  refine WC.region ?_
  -- R4.0 23 := model.go:105 move
  refine WL.v (by first | exact r_move (v := .pointer _) rfl | exact r_move rfl) rfl rfl rfl ?_
  -- R4.1 24 := model.go:105 move
  refine WL.v (by first | exact r_move (v := .int _ _) rfl | exact r_move rfl) rfl rfl rfl ?_
  -- R4.2 25 := model.go:105 nilCheck
  refine WL.v (by exact r_nilCheck rfl) rfl rfl rfl ?_
  -- R4.3 26 := model.go:105 fieldAddr
  refine WL.v (by exact r_field ty_fld98_12 rfl) rfl rfl rfl ?_
  -- R4.4 27 := model.go:105 indexAddr
  refine WL.v (by exact r_indexA (j := t) ty_ar76 rfl rfl rfl ht) rfl rfl rfl ?_
  -- R4.5 None := model.go:105 store
  refine WL.store (v := .int .i64 ((0 : Nat) : Int)) st ty_one3 rfl rfl rfl (by omega) rfl rfl ?_
  intro w st
  have st : S0 w0 (moI bm { mrOf s with wr := updN (mrOf s).wr t 0 } pv tv mb :: (b5, Row 28 5 (nth (opL o))) :: mpE (mb t) (fun _ => none) :: (XP ++ (XO ++ (R ++ l)))) w := stE (mw_wr ht) st
  refine WL.fin hK3546 (fun _ _ h => h) ?_
  refine WC.seq fun K3547 hK3547 => ?_
  -- region 5
  refine WC.region ?_
  -- R5.0 6 := model.go:106 assign
  refine WL.v (by first | exact r_assign (v := .int _ _) rfl | exact r_assign rfl) rfl rfl rfl ?_
  refine WL.fin hK3547 (fun _ _ h => h) ?_
  refine WC.ret1 Tryz.results99 (fun _ _ h => h) rfl ?_
  refine ⟨_, rfl, by rw [eS]; rfl, P, ?_, ?_⟩
  · rw [eS]
    refine hrel.same rfl fun a => ?_
    show (updN s.tk t _ a).deadline = _ ∧ (updN s.tk t _ a).timer = _
    unfold updN; split
    · rename_i e; rw [e]; exact ⟨rfl, rfl⟩
    · exact ⟨rfl, rfl⟩
  · rw [eS]
    show MW w0 bm mb (mrOf { s with tk := updN s.tk t { s.tk t with n := 0 } }) (odF { s with tk := updN s.tk t { s.tk t with n := 0 } }) P s.told l _
    rw [mr_n (T := { s.tk t with n := 0 }) (x := 0) rfl rfl rfl rfl, od_n0 (s := s) (s' := { s with tk := updN s.tk t { s.tk t with n := 0 } }) (T := { s.tk t with n := 0 }) rfl rfl]
    exact ⟨pv, XP, tv, XO, hp, ho, ((st.perm (by classical exact List.perm_iff_count.2 fun x => by simp only [List.count_append, List.count_cons, List.count_nil, List.append_eq, List.cons_append, List.nil_append, List.append_assoc, Nat.add_zero, Nat.zero_add] <;> ac_rfl) : S0 w0 ((b5, Row 28 5 (nth (opL o))) :: (moI bm { mrOf s with wr := updN (mrOf s).wr t 0 } pv tv mb :: (XP ++ (XO ++ ((mpE (mb t) (fun _ => none) :: R) ++ l))))) _).drop.perm (((((hR2 fun _ => none).symm.append_right l).append_left XO).append_left XP).cons _))⟩
theorem mr_exit : mrOf (exitS s t) = { mrOf s with wr := updN (mrOf s).wr t 0, held := zapRow s.held t, claim := zapRow s.claim t, live := updN (mrOf s).live t false, birth := updN (mrOf s).birth t 0, epoch := updN (mrOf s).epoch t (inc64 (s.tk t).epoch) } := by
  unfold mrOf exitS
  have e1 : (fun a => (updN s.tk t { tk0 with epoch := inc64 (s.tk t).epoch } a).live) = updN (fun a => (s.tk a).live) t false := by funext a; unfold updN; split <;> rfl
  have e2 : (fun a => (updN s.tk t { tk0 with epoch := inc64 (s.tk t).epoch } a).birth) = updN (fun a => (s.tk a).birth) t 0 := by funext a; unfold updN; split <;> rfl
  have e3 : (fun a => (updN s.tk t { tk0 with epoch := inc64 (s.tk t).epoch } a).epoch) = updN (fun a => (s.tk a).epoch) t (inc64 (s.tk t).epoch) := by funext a; unfold updN; split <;> rfl
  have e4 : (fun a => (updN s.tk t { tk0 with epoch := inc64 (s.tk t).epoch } a).n) = updN (fun a => (s.tk a).n) t 0 := by funext a; unfold updN; split <;> rfl
  show MR.mk _ _ _ _ (fun a => (updN s.tk t { tk0 with epoch := inc64 (s.tk t).epoch } a).live) (fun a => (updN s.tk t { tk0 with epoch := inc64 (s.tk t).epoch } a).birth) (fun a => (updN s.tk t { tk0 with epoch := inc64 (s.tk t).epoch } a).epoch) _ _ _ (fun a => (updN s.tk t { tk0 with epoch := inc64 (s.tk t).epoch } a).n) = _
  rw [e1, e2, e3, e4]
set_option maxHeartbeats 4000000 in
theorem callM9_ok {o : Kern.Op} (hk : o.kind = 9) (hD : gD w0) (hA : o.A = t) (hc : CallOK s t) (hB : KB N s) (hN : N + 100 ≤ 1000000) (hI : INV s) (hct : CT s) (hrel : RelP s P) (st : MK w0 bm mb s P l w) :
    Calls Tryz.prog 99 #[.pointer (some ⟨bm, 0, none⟩), .int .i64 (t : Nat), .agg (opL o).toArray] w (Ret fun v w' => v = .int .i64 (stepP s o).2.1 ∧ ∃ P', RelP (stepP s o).1 P' ∧ MK w0 bm mb (stepP s o).1 P' l w') := by
  obtain ⟨pv, XP, tv, XO, hp, ho, st⟩ := st
  have ht := hc.lt
  have hplen := hrel.len
  have hnn := hB.nn
  obtain ⟨R, hR1, hR2⟩ := mp_at (mb := mb) (D := odF s) ht
  have st : S0 w0 (mpE (mb t) (odF s t) :: (moI bm (mrOf s) pv tv mb :: (XP ++ (XO ++ (R ++ l))))) w := (st.perm ((((hR1.append_right l).append_left XO).append_left XP).cons _) : S0 w0 (moI bm (mrOf s) pv tv mb :: (XP ++ (XO ++ ((mpE (mb t) (odF s t) :: R) ++ l)))) w).perm (by classical exact List.perm_iff_count.2 fun x => by simp only [List.count_append, List.count_cons, List.count_nil, List.append_eq, List.cons_append, List.nil_append, List.append_assoc, Nat.add_zero, Nat.zero_add] <;> ac_rfl)
  have hcal : callerP s (t : Int) = 0 := by
    unfold callerP
    rw [if_neg (by omega), Int.toNat_natCast, hc.live, if_neg (by decide), hc.wait]; rfl
  have hnA : nameP o.A 16 = (t : Int) := by rw [hA]; exact nameP_eq (by omega)
  have eS : stepP s o = (wakeP (exitS s t), 0, -1) := by
    unfold stepP; rw [hk]
    show ((exitP s (nameP o.A 16)).1, (exitP s (nameP o.A 16)).2, (-1 : Int)) = _
    rw [hnA]; unfold exitP; rw [hcal, if_neg (by decide), Int.toNat_natCast]
  refine enter [.pointer (some ⟨bm, 0, none⟩), .int .i64 (t : Nat), .agg (opL o).toArray] Tryz.func99 rfl Tryz.ntmps99 rfl ?_
  show WC _ _ _ 219 [] [(0, .pointer (some ⟨bm, 0, none⟩)), (1, .int .i64 (t : Nat)), (2, .agg (opL o).toArray)] _
  refine WC.seq fun K3548 hK3548 => ?_
  -- region 0
  refine WC.region ?_
  -- R0.0 5 := model.go:101 box
  refine WL.box (m := 5) (vs := opL o) st rfl rfl rfl rfl rfl rfl ?_
  intro b5 w st
  have st : S0 w0 ((b5, Row 28 5 (nth (opL o))) :: mpE (mb t) (odF s t) :: (moI bm (mrOf s) pv tv mb :: (XP ++ (XO ++ (R ++ l))))) w := st
  -- R0.1 6 := model.go:101 assign
  refine WL.v (by first | exact r_assign (v := .int _ _) rfl | exact r_assign rfl) rfl rfl rfl ?_
  refine WL.fin hK3548 (fun _ _ h => h) ?_
  refine WC.seq fun K3549 hK3549 => ?_
  refine WC.seq fun K3550 hK3550 => ?_
  -- region 1
  refine WC.region ?_
  -- R1.0 13 := model.go:102 fieldAddr
  refine WL.v (by exact r_field ty_fld28_0 rfl) rfl rfl rfl ?_
  -- R1.1 14 := model.go:102 load
  refine WL.v (by exact r_load1 (v := .int .u8 (o.kind : Nat)) ty_one25 rfl (st.c0 (by decide))) rfl rfl rfl ?_
  refine WL.fin hK3550 (fun _ _ h => h) ?_
  refine WC.block ?_
  refine WC.seq fun K3551 hK3551 => ?_
  -- region 2
  refine WC.region ?_
  -- R2.0 16 := model.go:103 binOp
  refine WL.v (by exact r_eql rfl rfl (decide_eq_false (by omega))) rfl rfl rfl ?_
  -- R2.1 15 := model.go:103 assign
  refine WL.v (by first | exact r_assign (v := .bool _) rfl | exact r_assign rfl) rfl rfl rfl ?_
  refine WL.fin hK3551 (fun _ _ h => h) ?_
  refine WC.condF rfl rfl ?_
  refine WC.seq fun K3552 hK3552 => ?_
  -- region 6
  refine WC.region ?_
  -- R6.0 29 := model.go:107 binOp
  refine WL.v (by exact r_eql rfl rfl (decide_eq_true (by omega))) rfl rfl rfl ?_
  -- R6.1 28 := model.go:107 assign
  refine WL.v (by first | exact r_assign (v := .bool _) rfl | exact r_assign rfl) rfl rfl rfl ?_
  refine WL.fin hK3552 (fun _ _ h => h) ?_
  refine WC.condT rfl rfl ?_
  refine WC.seq fun K3553 hK3553 => ?_
  -- region 7
  refine WC.region ?_
  -- R7.0 30 := model.go:108 move
  refine WL.v (by first | exact r_move (v := .pointer _) rfl | exact r_move rfl) rfl rfl rfl ?_
  -- R7.1 31 := model.go:108 move
  refine WL.v (by first | exact r_move (v := .int _ _) rfl | exact r_move rfl) rfl rfl rfl ?_
  -- R7.2 32 := model.go:108 nilCheck
  refine WL.v (by exact r_nilCheck rfl) rfl rfl rfl ?_
  -- R7.3 33 := model.go:108 fieldAddr
  refine WL.v (by exact r_field ty_fld98_11 rfl) rfl rfl rfl ?_
  -- R7.4 34 := model.go:108 indexAddr
  refine WL.v (by exact r_indexA (j := t) ty_ar73 rfl rfl rfl ht) rfl rfl rfl ?_
  -- R7.5 35 := model.go:108 load
  refine WL.v (by exact r_load1 (v := .map (some (mb t))) ty_one72 rfl (c_mbefore (List.mem_cons_of_mem _ (List.mem_cons_of_mem _ List.mem_cons_self)) ht (by omega) st)) rfl rfl rfl ?_
  -- R7.6 None := model.go:108 call
  refine WL.clearI st.front1 ty_mp72 rfl rfl rfl ?_
  intro w st
  rw [← odV_none] at st
  have st : S0 w0 (mpE (mb t) (fun _ => none) :: (b5, Row 28 5 (nth (opL o))) :: moI bm (mrOf s) pv tv mb :: (XP ++ (XO ++ (R ++ l)))) w := st
  have st : S0 w0 (moI bm (mrOf s) pv tv mb :: (b5, Row 28 5 (nth (opL o))) :: mpE (mb t) (fun _ => none) :: (XP ++ (XO ++ (R ++ l)))) w := st.perm (by classical exact List.perm_iff_count.2 fun x => by simp only [List.count_append, List.count_cons, List.count_nil, List.append_eq, List.cons_append, List.nil_append, List.append_assoc, Nat.add_zero, Nat.zero_add] <;> ac_rfl)
  refine WL.fin hK3553 (fun _ _ h => h) ?_
  refine WC.seq fun K3554 hK3554 => ?_
  -- region 8
  refine WC.region ?_
  -- R8.0 36 := model.go:109 move
  refine WL.v (by first | exact r_move (v := .pointer _) rfl | exact r_move rfl) rfl rfl rfl ?_
  -- R8.1 37 := model.go:109 move
  refine WL.v (by first | exact r_move (v := .int _ _) rfl | exact r_move rfl) rfl rfl rfl ?_
  -- R8.2 38 := model.go:109 nilCheck
  refine WL.v (by exact r_nilCheck rfl) rfl rfl rfl ?_
  -- R8.3 39 := model.go:109 fieldAddr
  refine WL.v (by exact r_field ty_fld98_12 rfl) rfl rfl rfl ?_
  -- R8.4 40 := model.go:109 indexAddr
  refine WL.v (by exact r_indexA (j := t) ty_ar76 rfl rfl rfl ht) rfl rfl rfl ?_
  -- R8.5 None := model.go:109 store
  refine WL.store (v := .int .i64 ((0 : Nat) : Int)) st ty_one3 rfl rfl rfl (by omega) rfl rfl ?_
  intro w st
  have st : S0 w0 (moI bm { mrOf s with wr := updN (mrOf s).wr t 0 } pv tv mb :: (b5, Row 28 5 (nth (opL o))) :: mpE (mb t) (fun _ => none) :: (XP ++ (XO ++ (R ++ l)))) w := stE (mw_wr ht) st
  refine WL.fin hK3554 (fun _ _ h => h) ?_
  refine WC.seq fun K3555 hK3555 => ?_
  -- region 9 (draws)
  refine WC.heldS2 [9, 12, 13] [] [0, 1, 2, 3, 4, 5, 6, 7, 8, 10, 11] [9, 12, 13] st (st) ty_mixed (by kernel_rfl) fun w st Kq Kq2 hKq hKq2 => ?_
  refine HL.pure hKq ?_
  -- R9.0 41 := model.go:110 move
  refine HL.v (fun w _ => by first | exact r_move (v := .pointer _) rfl | exact r_move rfl) rfl rfl rfl ?_
  -- R9.1 42 := model.go:110 move
  refine HL.v (fun w _ => by first | exact r_move (v := .int _ _) rfl | exact r_move rfl) rfl rfl rfl ?_
  -- R9.2 43 := model.go:110 move
  refine HL.v (fun w _ => by first | exact r_move (v := .pointer _) rfl | exact r_move rfl) rfl rfl rfl ?_
  -- R9.3 44 := model.go:110 move
  refine HL.v (fun w _ => by first | exact r_move (v := .int _ _) rfl | exact r_move rfl) rfl rfl rfl ?_
  -- R9.4 45 := model.go:110 build
  refine HL.v (fun w _ => by exact r_buildN (n := 20) (z := fun _ => .int .i64 0) (v := fun _ => .int .i64 0) (ps := []) ty_pl44 ty_zeroN44 rfl fill_nil) rfl rfl rfl ?_
  -- R9.5 46 := model.go:110 build
  refine HL.v (fun w _ => by exact r_buildN (n := 20) (z := fun _ => .int .i64 0) (v := fun _ => .int .i64 0) (ps := []) ty_pl44 ty_zeroN44 rfl fill_nil) rfl rfl rfl ?_
  -- R9.6 47 := model.go:110 nilCheck
  refine HL.v (fun w _ => by exact r_nilCheck rfl) rfl rfl rfl ?_
  -- R9.7 48 := model.go:110 fieldAddr
  refine HL.v (fun w _ => by exact r_field ty_fld98_7 rfl) rfl rfl rfl ?_
  -- R9.8 49 := model.go:110 indexAddr
  refine HL.v (fun w _ => by exact r_indexA (j := t) ty_ar45 rfl rfl rfl ht) rfl rfl rfl ?_
  -- R9.10 50 := model.go:110 nilCheck
  refine HL.v (fun w _ => by exact r_nilCheck rfl) rfl rfl rfl ?_
  -- R9.11 51 := model.go:110 fieldAddr
  refine HL.v (fun w _ => by exact r_field ty_fld98_8 rfl) rfl rfl rfl ?_
  refine HL.fin hKq2 ?_
  refine TL.at ?_
  -- R9.9 None := model.go:110 store
  refine WL.storeN (v := fun _ => .int .i64 0) st ty_agg44 rfl rfl (fun _ _ => rfl) (by omega) rfl rfl ?_
  intro w st
  have st := stE (mz_held ht) st
  refine TL.nxt' rfl ?_
  refine TL.at ?_
  -- R9.12 52 := model.go:110 indexAddr
  refine WL.v (by exact r_indexA (j := t) ty_ar45 rfl rfl rfl ht) rfl rfl rfl ?_
  refine TL.nxt' rfl ?_
  refine TL.at ?_
  -- R9.13 None := model.go:110 store
  refine WL.storeN (v := fun _ => .int .i64 0) st ty_agg44 rfl rfl (fun _ _ => rfl) (by omega) rfl rfl ?_
  intro w st
  have st := stE (mz_claim ht) st
  refine TL.nxt' rfl ?_
  refine TL.wl ?_
  refine WL.fin hK3555 (fun _ _ h => h) ?_
  refine WC.seq fun K3556 hK3556 => ?_
  -- region 10 (draws)
  refine WC.heldS2 [7, 10, 11] [] [0, 1, 2, 3, 4, 5, 6, 8, 9] [7, 10, 11] st (st) ty_mixed (by kernel_rfl) fun w st Kq Kq2 hKq hKq2 => ?_
  refine HL.pure hKq ?_
  -- R10.0 53 := model.go:111 move
  refine HL.v (fun w _ => by first | exact r_move (v := .pointer _) rfl | exact r_move rfl) rfl rfl rfl ?_
  -- R10.1 54 := model.go:111 move
  refine HL.v (fun w _ => by first | exact r_move (v := .int _ _) rfl | exact r_move rfl) rfl rfl rfl ?_
  -- R10.2 55 := model.go:111 move
  refine HL.v (fun w _ => by first | exact r_move (v := .pointer _) rfl | exact r_move rfl) rfl rfl rfl ?_
  -- R10.3 56 := model.go:111 move
  refine HL.v (fun w _ => by first | exact r_move (v := .int _ _) rfl | exact r_move rfl) rfl rfl rfl ?_
  -- R10.4 57 := model.go:111 nilCheck
  refine HL.v (fun w _ => by exact r_nilCheck rfl) rfl rfl rfl ?_
  -- R10.5 58 := model.go:111 fieldAddr
  refine HL.v (fun w _ => by exact r_field ty_fld98_4 rfl) rfl rfl rfl ?_
  -- R10.6 59 := model.go:111 indexAddr
  refine HL.v (fun w _ => by exact r_indexA (j := t) ty_ar86 rfl rfl rfl ht) rfl rfl rfl ?_
  -- R10.8 60 := model.go:111 nilCheck
  refine HL.v (fun w _ => by exact r_nilCheck rfl) rfl rfl rfl ?_
  -- R10.9 61 := model.go:111 fieldAddr
  refine HL.v (fun w _ => by exact r_field ty_fld98_5 rfl) rfl rfl rfl ?_
  refine HL.fin hKq2 ?_
  refine TL.at ?_
  -- R10.7 None := model.go:111 store
  refine WL.store (v := .bool false) st ty_one4 rfl rfl rfl (by omega) rfl rfl ?_
  intro w st
  have st := stE (mw_live (x := false) ht) st
  refine TL.nxt' rfl ?_
  refine TL.at ?_
  -- R10.10 62 := model.go:111 indexAddr
  refine WL.v (by exact r_indexA (j := t) ty_ar81 rfl rfl rfl ht) rfl rfl rfl ?_
  refine TL.nxt' rfl ?_
  refine TL.at ?_
  -- R10.11 None := model.go:111 store
  refine WL.store (v := .int .u64 ((0 : Nat) : Int)) st ty_one26 rfl rfl rfl (by omega) rfl rfl ?_
  intro w st
  have st := stE (mw_birth (x := 0) ht) st
  have st : S0 w0 (moI bm { mrOf s with wr := updN (mrOf s).wr t 0, held := zapRow s.held t, claim := zapRow s.claim t, live := updN (mrOf s).live t false, birth := updN (mrOf s).birth t 0 } pv tv mb :: (b5, Row 28 5 (nth (opL o))) :: mpE (mb t) (fun _ => none) :: (XP ++ (XO ++ (R ++ l)))) w := st
  refine TL.nxt' rfl ?_
  refine TL.wl ?_
  refine WL.fin hK3556 (fun _ _ h => h) ?_
  refine WC.seq fun K3557 hK3557 => ?_
  -- region 11 (draws)
  refine WC.tailS 10 st ty_mixed (by kernel_rfl) fun w st Kq hKq => ?_
  -- R11.0 63 := model.go:112 move
  refine SL.v (by first | exact r_move (v := .pointer _) rfl | exact r_move rfl) rfl rfl rfl ?_
  -- R11.1 64 := model.go:112 move
  refine SL.v (by first | exact r_move (v := .int _ _) rfl | exact r_move rfl) rfl rfl rfl ?_
  -- R11.2 65 := model.go:112 nilCheck
  refine SL.v (by exact r_nilCheck rfl) rfl rfl rfl ?_
  -- R11.3 66 := model.go:112 fieldAddr
  refine SL.v (by exact r_field ty_fld98_6 rfl) rfl rfl rfl ?_
  -- R11.4 67 := model.go:112 indexAddr
  refine SL.v (by exact r_indexA (j := t) ty_ar81 rfl rfl rfl ht) rfl rfl rfl ?_
  -- R11.5 68 := model.go:112 load
  refine SL.v (by exact r_load1 (v := .int .u64 ((s.tk t).epoch : Nat)) ty_one26 rfl (c_mepoch (m := { mrOf s with wr := updN (mrOf s).wr t 0, held := zapRow s.held t, claim := zapRow s.claim t, live := updN (mrOf s).live t false, birth := updN (mrOf s).birth t 0 }) List.mem_cons_self ht (by omega) st)) rfl rfl rfl ?_
  -- R11.6 69 := model.go:112 binOp
  refine SL.v (by exact r_add (r := ((inc64 (s.tk t).epoch : Nat) : Int)) rfl rfl (by show (((s.tk t).epoch : Nat) + 1 : Int) % 18446744073709551616 = (((s.tk t).epoch + 1) % 18446744073709551616 : Nat); omega)) rfl rfl rfl ?_
  -- R11.7 70 := model.go:112 nilCheck
  refine SL.v (by exact r_nilCheck rfl) rfl rfl rfl ?_
  -- R11.8 71 := model.go:112 fieldAddr
  refine SL.v (by exact r_field ty_fld98_6 rfl) rfl rfl rfl ?_
  -- R11.9 72 := model.go:112 indexAddr
  refine SL.v (by exact r_indexA (j := t) ty_ar81 rfl rfl rfl ht) rfl rfl rfl ?_
  refine SL.fin hKq ?_
  -- R11.10 None := model.go:112 store
  refine WL.store (v := .int .u64 ((inc64 (s.tk t).epoch : Nat) : Int)) st ty_one26 rfl rfl rfl (by omega) rfl rfl ?_
  intro w st
  have st : S0 w0 (moI bm { mrOf s with wr := updN (mrOf s).wr t 0, held := zapRow s.held t, claim := zapRow s.claim t, live := updN (mrOf s).live t false, birth := updN (mrOf s).birth t 0, epoch := updN (mrOf s).epoch t (inc64 (s.tk t).epoch) } pv tv mb :: (b5, Row 28 5 (nth (opL o))) :: mpE (mb t) (fun _ => none) :: (XP ++ (XO ++ (R ++ l)))) w := stE (mw_epoch ht) st
  refine WL.fin hK3557 (fun _ _ h => h) ?_
  refine WC.seq fun K3558 hK3558 => ?_
  -- region 12
  refine WC.region ?_
  -- R12.0 73 := model.go:113 move
  refine WL.v (by first | exact r_move (v := .pointer _) rfl | exact r_move rfl) rfl rfl rfl ?_
  -- R12.1 74 := model.go:113 call
  have mh : MK w0 bm mb (exitS s t) P l w := by unfold MK; rw [mr_exit, od_n0 (s := s) (s' := exitS s t) (T := { tk0 with epoch := inc64 (s.tk t).epoch }) rfl rfl]; exact ⟨pv, XP, tv, XO, hp, ho, ((st.perm (by classical exact List.perm_iff_count.2 fun x => by simp only [List.count_append, List.count_cons, List.count_nil, List.append_eq, List.cons_append, List.nil_append, List.append_assoc, Nat.add_zero, Nat.zero_add] <;> ac_rfl) : S0 w0 ((b5, Row 28 5 (nth (opL o))) :: (moI bm { mrOf s with wr := updN (mrOf s).wr t 0, held := zapRow s.held t, claim := zapRow s.claim t, live := updN (mrOf s).live t false, birth := updN (mrOf s).birth t 0, epoch := updN (mrOf s).epoch t (inc64 (s.tk t).epoch) } pv tv mb :: (XP ++ (XO ++ ((mpE (mb t) (fun _ => none) :: R) ++ l))))) _).drop.perm (((((hR2 fun _ => none).symm.append_right l).append_left XO).append_left XP).cons _))⟩
  refine WL.call (r_call ty_call123 rfl) rfl rfl rfl (settle_ok hD hB.exitS (by omega) (exit_INV hI hc) (fun a b hb => by show zapRow s.claim t a b ≤ _; unfold zapRow; split; exact Nat.zero_le _; exact hct a b hb) ?_ mh) ?_
  · refine ⟨hrel.q, hrel.l, fun p hp => ?_, hrel.u⟩; have hne := hrel.free hI hc.wait p hp; show p.d = (updN s.tk t _ p.t).deadline ∧ p.n = (updN s.tk t _ p.t).timer; rw [updN_ne hne]; exact hrel.d p hp
  rintro _ w ⟨rfl, P', hrel', st⟩
  refine WL.fin hK3558 (fun _ _ h => h) ?_
  refine WC.seq fun K3559 hK3559 => ?_
  -- region 13
  refine WC.region ?_
  -- R13.0 6 := model.go:114 assign
  refine WL.v (by first | exact r_assign (v := .int _ _) rfl | exact r_assign rfl) rfl rfl rfl ?_
  refine WL.fin hK3559 (fun _ _ h => h) ?_
  refine WC.ret1 Tryz.results99 (fun _ _ h => h) rfl ?_
  exact ⟨_, rfl, by rw [eS]; rfl, P', by rw [eS]; exact hrel', by rw [eS]; exact st⟩
theorem touch_old {T : TK} {c : Nat} : touchesP T c = (oldP T c).isSome := by
  unfold touchesP oldP
  induction T.n with
  | zero => rfl
  | succ n ih =>
    rw [any_succ, ih]
    have e0 : oldG T.ec T.eo (n + 1) c = match oldG T.ec T.eo n c with | some v => some v | none => if T.ec n = c then some (T.eo n) else none := rfl
    rw [e0]
    cases hx : oldG T.ec T.eo n c with
    | some v => rfl
    | none =>
      show (false || (T.ec n == c)) = (if T.ec n = c then some (T.eo n) else none).isSome
      by_cases e : T.ec n = c
      · rw [if_pos e]; simp [e]
      · rw [if_neg e]; simp [e]
set_option maxHeartbeats 4000000 in
theorem callM345_ok {o : Kern.Op} {tim : Option Nat} (hk : o.kind = 3 ∧ tim = none ∨ o.kind = 4 ∧ tim = some 0 ∨ o.kind = 5 ∧ tim = some o.X) (hX64 : o.X < 18446744073709551616) (hC1 : -9223372036854775808 ≤ o.C) (hC2 : o.C < 9223372036854775808) (hbi : BI s) (hti : TI s []) (hnow : s.now ≤ 1000000) (harm : s.armed ≤ 1000000) (hD : gD w0) (hA : o.A = t) (hc : CallOK s t) (hB : KB N s) (hN : N + 100 ≤ 1000000) (hI : INV s) (hct : CT s) (hrel : RelP s P) (st : MK w0 bm mb s P l w) :
    Calls Tryz.prog 99 #[.pointer (some ⟨bm, 0, none⟩), .int .i64 (t : Nat), .agg (opL o).toArray] w (Ret fun v w' => v = .int .i64 (stepP s o).2.1 ∧ ∃ P', RelP (stepP s o).1 P' ∧ MK w0 bm mb (stepP s o).1 P' l w') := by
  obtain ⟨pv, XP, tv, XO, hp, ho, st⟩ := st
  have ht := hc.lt
  have hplen := hrel.len
  have hnn := hB.nn
  obtain ⟨R, hR1, hR2⟩ := mp_at (mb := mb) (D := odF s) ht
  have st : S0 w0 (mpE (mb t) (odF s t) :: (moI bm (mrOf s) pv tv mb :: (XP ++ (XO ++ (R ++ l))))) w := (st.perm ((((hR1.append_right l).append_left XO).append_left XP).cons _) : S0 w0 (moI bm (mrOf s) pv tv mb :: (XP ++ (XO ++ ((mpE (mb t) (odF s t) :: R) ++ l)))) w).perm (by classical exact List.perm_iff_count.2 fun x => by simp only [List.count_append, List.count_cons, List.count_nil, List.append_eq, List.cons_append, List.nil_append, List.append_assoc, Nat.add_zero, Nat.zero_add] <;> ac_rfl)
  have hcal : callerP s (t : Int) = 0 := by
    unfold callerP
    rw [if_neg (by omega), Int.toNat_natCast, hc.live, if_neg (by decide), hc.wait]; rfl
  have hnA : nameP o.A 16 = (t : Int) := by rw [hA]; exact nameP_eq (by omega)
  have eS : stepP s o = ((acquireP s (t : Int) (nameP o.B 20) (nameP o.C 17) tim).1, (acquireP s (t : Int) (nameP o.B 20) (nameP o.C 17) tim).2, -1) := by
    unfold stepP
    rcases hk with ⟨h, rfl⟩ | ⟨h, rfl⟩ | ⟨h, rfl⟩
    · rw [h, ← hnA]; rfl
    · rw [h, ← hnA]; rfl
    · rw [h, ← hnA]; rfl
  by_cases hb : 0 ≤ o.B ∧ o.B < 20
  rotate_left
  · have hnB : nameP o.B 20 = -1 := if_pos (by omega)
    have e2 : acquireP s (t : Int) (nameP o.B 20) (nameP o.C 17) tim = (s, 13) := by
      have e3 : checkP s.held t (nameP o.B 20) (nameP o.C 17) = 13 := by rw [hnB]; exact if_pos (.inl (by decide))
      unfold acquireP
      rw [hcal, if_neg (by decide), Int.toNat_natCast, e3, if_pos (by decide)]
    rw [e2] at eS
    refine enter [.pointer (some ⟨bm, 0, none⟩), .int .i64 (t : Nat), .agg (opL o).toArray] Tryz.func99 rfl Tryz.ntmps99 rfl ?_
    show WC _ _ _ 219 [] [(0, .pointer (some ⟨bm, 0, none⟩)), (1, .int .i64 (t : Nat)), (2, .agg (opL o).toArray)] _
    refine WC.seq fun K3560 hK3560 => ?_
    -- region 0
    refine WC.region ?_
    -- R0.0 5 := model.go:101 box
    refine WL.box (m := 5) (vs := opL o) st rfl rfl rfl rfl rfl rfl ?_
    intro b5 w st
    have st : S0 w0 ((b5, Row 28 5 (nth (opL o))) :: mpE (mb t) (odF s t) :: (moI bm (mrOf s) pv tv mb :: (XP ++ (XO ++ (R ++ l))))) w := st
    -- R0.1 6 := model.go:101 assign
    refine WL.v (by first | exact r_assign (v := .int _ _) rfl | exact r_assign rfl) rfl rfl rfl ?_
    refine WL.fin hK3560 (fun _ _ h => h) ?_
    refine WC.seq fun K3561 hK3561 => ?_
    refine WC.seq fun K3562 hK3562 => ?_
    -- region 1
    refine WC.region ?_
    -- R1.0 13 := model.go:102 fieldAddr
    refine WL.v (by exact r_field ty_fld28_0 rfl) rfl rfl rfl ?_
    -- R1.1 14 := model.go:102 load
    refine WL.v (by exact r_load1 (v := .int .u8 (o.kind : Nat)) ty_one25 rfl (st.c0 (by decide))) rfl rfl rfl ?_
    refine WL.fin hK3562 (fun _ _ h => h) ?_
    refine WC.block ?_
    refine WC.seq fun K3563 hK3563 => ?_
    -- region 2
    refine WC.region ?_
    -- R2.0 16 := model.go:103 binOp
    refine WL.v (by exact r_eql rfl rfl (decide_eq_false (by omega))) rfl rfl rfl ?_
    -- R2.1 15 := model.go:103 assign
    refine WL.v (by first | exact r_assign (v := .bool _) rfl | exact r_assign rfl) rfl rfl rfl ?_
    refine WL.fin hK3563 (fun _ _ h => h) ?_
    refine WC.condF rfl rfl ?_
    refine WC.seq fun K3564 hK3564 => ?_
    -- region 6
    refine WC.region ?_
    -- R6.0 29 := model.go:107 binOp
    refine WL.v (by exact r_eql rfl rfl (decide_eq_false (by omega))) rfl rfl rfl ?_
    -- R6.1 28 := model.go:107 assign
    refine WL.v (by first | exact r_assign (v := .bool _) rfl | exact r_assign rfl) rfl rfl rfl ?_
    refine WL.fin hK3564 (fun _ _ h => h) ?_
    refine WC.condF rfl rfl ?_
    refine WC.seq fun K3565 hK3565 => ?_
    -- region 14
    refine WC.region ?_
    -- R14.0 76 := model.go:115 binOp
    refine WL.v (by exact r_eql rfl rfl (decide_eq_false (by omega))) rfl rfl rfl ?_
    -- R14.1 75 := model.go:115 assign
    refine WL.v (by first | exact r_assign (v := .bool _) rfl | exact r_assign rfl) rfl rfl rfl ?_
    refine WL.fin hK3565 (fun _ _ h => h) ?_
    refine WC.condF rfl rfl ?_
    refine WC.skipF hK3561 (fun _ _ h => h) ?_
    refine WC.seq fun K3566 hK3566 => ?_
    refine WC.seq fun K3567 hK3567 => ?_
    -- region 28
    refine WC.region ?_
    -- R28.0 143 := model.go:133 fieldAddr
    refine WL.v (by exact r_field ty_fld28_2 rfl) rfl rfl rfl ?_
    -- R28.1 144 := model.go:133 load
    refine WL.v (by exact r_load1 (v := .int .i64 o.B) ty_one2 rfl (st.c0 (by decide))) rfl rfl rfl ?_
    -- R28.2 145 := model.go:133 call
    refine WL.call (r_call ty_call93 rfl) rfl rfl rfl (withinM_ok (v := o.B) (n := 20) st) ?_
    rintro _ w ⟨he, st⟩
    have he : _ = Value.bool false := he.trans (by unfold wiP; rw [decide_eq_false hb])
    subst he
    -- R28.3 146 := model.go:133 unOp
    refine WL.v (by first | exact r_notT rfl | exact r_notF rfl | exact r_not rfl) rfl rfl rfl ?_
    refine WL.fin hK3567 (fun _ _ h => h) ?_
    refine WC.condT rfl rfl ?_
    refine WC.seq fun K3568 hK3568 => ?_
    -- region 29
    refine WC.region ?_
    -- R29.0 6 := model.go:134 assign
    refine WL.v (by first | exact r_assign (v := .int _ _) rfl | exact r_assign rfl) rfl rfl rfl ?_
    refine WL.fin hK3568 (fun _ _ h => h) ?_
    refine WC.ret1 Tryz.results99 (fun _ _ h => h) rfl ?_
    exact ⟨_, rfl, by rw [eS]; rfl, P, by rw [eS]; exact hrel, by rw [eS]; exact ⟨pv, XP, tv, XO, hp, ho, ((st.drop.perm (by classical exact List.perm_iff_count.2 fun x => by simp only [List.count_append, List.count_cons, List.count_nil, List.append_eq, List.cons_append, List.nil_append, List.append_assoc, Nat.add_zero, Nat.zero_add] <;> ac_rfl) : S0 w0 (moI bm (mrOf s) pv tv mb :: (XP ++ (XO ++ ((mpE (mb t) (odF s t) :: R) ++ l)))) _).perm ((((hR1.symm.append_right l).append_left XO).append_left XP).cons _))⟩⟩
  obtain ⟨r, hr⟩ : ∃ r : Nat, o.B = r := ⟨o.B.toNat, by omega⟩
  have hr20 : r < 20 := by omega
  have hnB : nameP o.B 20 = (r : Int) := by rw [hr]; exact nameP_eq (by omega)
  have e2 : acquireP s (t : Int) (nameP o.B 20) (nameP o.C 17) tim = acqM s t r (nameP o.C 17) tim := by
    unfold acquireP acqM
    rw [hcal, if_neg (by decide), hnB, Int.toNat_natCast, Int.toNat_natCast]
  rw [e2] at eS
  refine enter [.pointer (some ⟨bm, 0, none⟩), .int .i64 (t : Nat), .agg (opL o).toArray] Tryz.func99 rfl Tryz.ntmps99 rfl ?_
  show WC _ _ _ 219 [] [(0, .pointer (some ⟨bm, 0, none⟩)), (1, .int .i64 (t : Nat)), (2, .agg (opL o).toArray)] _
  refine WC.seq fun K3569 hK3569 => ?_
  -- region 0
  refine WC.region ?_
  -- R0.0 5 := model.go:101 box
  refine WL.box (m := 5) (vs := opL o) st rfl rfl rfl rfl rfl rfl ?_
  intro b5 w st
  have st : S0 w0 ((b5, Row 28 5 (nth (opL o))) :: mpE (mb t) (odF s t) :: (moI bm (mrOf s) pv tv mb :: (XP ++ (XO ++ (R ++ l))))) w := st
  -- R0.1 6 := model.go:101 assign
  refine WL.v (by first | exact r_assign (v := .int _ _) rfl | exact r_assign rfl) rfl rfl rfl ?_
  refine WL.fin hK3569 (fun _ _ h => h) ?_
  refine WC.seq fun K3570 hK3570 => ?_
  refine WC.seq fun K3571 hK3571 => ?_
  -- region 1
  refine WC.region ?_
  -- R1.0 13 := model.go:102 fieldAddr
  refine WL.v (by exact r_field ty_fld28_0 rfl) rfl rfl rfl ?_
  -- R1.1 14 := model.go:102 load
  refine WL.v (by exact r_load1 (v := .int .u8 (o.kind : Nat)) ty_one25 rfl (st.c0 (by decide))) rfl rfl rfl ?_
  refine WL.fin hK3571 (fun _ _ h => h) ?_
  refine WC.block ?_
  refine WC.seq fun K3572 hK3572 => ?_
  -- region 2
  refine WC.region ?_
  -- R2.0 16 := model.go:103 binOp
  refine WL.v (by exact r_eql rfl rfl (decide_eq_false (by omega))) rfl rfl rfl ?_
  -- R2.1 15 := model.go:103 assign
  refine WL.v (by first | exact r_assign (v := .bool _) rfl | exact r_assign rfl) rfl rfl rfl ?_
  refine WL.fin hK3572 (fun _ _ h => h) ?_
  refine WC.condF rfl rfl ?_
  refine WC.seq fun K3573 hK3573 => ?_
  -- region 6
  refine WC.region ?_
  -- R6.0 29 := model.go:107 binOp
  refine WL.v (by exact r_eql rfl rfl (decide_eq_false (by omega))) rfl rfl rfl ?_
  -- R6.1 28 := model.go:107 assign
  refine WL.v (by first | exact r_assign (v := .bool _) rfl | exact r_assign rfl) rfl rfl rfl ?_
  refine WL.fin hK3573 (fun _ _ h => h) ?_
  refine WC.condF rfl rfl ?_
  refine WC.seq fun K3574 hK3574 => ?_
  -- region 14
  refine WC.region ?_
  -- R14.0 76 := model.go:115 binOp
  refine WL.v (by exact r_eql rfl rfl (decide_eq_false (by omega))) rfl rfl rfl ?_
  -- R14.1 75 := model.go:115 assign
  refine WL.v (by first | exact r_assign (v := .bool _) rfl | exact r_assign rfl) rfl rfl rfl ?_
  refine WL.fin hK3574 (fun _ _ h => h) ?_
  refine WC.condF rfl rfl ?_
  refine WC.skipF hK3570 (fun _ _ h => h) ?_
  refine WC.seq fun K3575 hK3575 => ?_
  refine WC.seq fun K3576 hK3576 => ?_
  -- region 28
  refine WC.region ?_
  -- R28.0 143 := model.go:133 fieldAddr
  refine WL.v (by exact r_field ty_fld28_2 rfl) rfl rfl rfl ?_
  -- R28.1 144 := model.go:133 load
  refine WL.v (by exact r_load1 (v := .int .i64 o.B) ty_one2 rfl (st.c0 (by decide))) rfl rfl rfl ?_
  -- R28.2 145 := model.go:133 call
  refine WL.call (r_call ty_call93 rfl) rfl rfl rfl (withinM_ok (v := o.B) (n := 20) st) ?_
  rintro _ w ⟨he, st⟩
  have he : _ = Value.bool true := he.trans (by unfold wiP; rw [decide_eq_true hb])
  subst he
  -- R28.3 146 := model.go:133 unOp
  refine WL.v (by first | exact r_notT rfl | exact r_notF rfl | exact r_not rfl) rfl rfl rfl ?_
  refine WL.fin hK3576 (fun _ _ h => h) ?_
  refine WC.condF rfl rfl ?_
  refine WC.skipF hK3575 (fun _ _ h => h) ?_
  refine WC.seq fun K3577 hK3577 => ?_
  -- region 30
  refine WC.region ?_
  -- R30.0 147 := model.go:136 fieldAddr
  refine WL.v (by exact r_field ty_fld28_2 rfl) rfl rfl rfl ?_
  -- R30.1 148 := model.go:136 load
  refine WL.v (by exact r_load1 (v := .int .i64 (r : Nat)) ty_one2 rfl (by rw [← hr]; exact st.c0 (by decide))) rfl rfl rfl ?_
  -- R30.2 10 := model.go:136 assign
  refine WL.v (by first | exact r_assign (v := .int _ _) rfl | exact r_assign rfl) rfl rfl rfl ?_
  refine WL.fin hK3577 (fun _ _ h => h) ?_
  refine WC.seq fun K3578 hK3578 => ?_
  refine WC.seq fun K3579 hK3579 => ?_
  -- region 31
  refine WC.region ?_
  -- R31.0 149 := model.go:137 fieldAddr
  refine WL.v (by exact r_field ty_fld28_0 rfl) rfl rfl rfl ?_
  -- R31.1 150 := model.go:137 load
  refine WL.v (by exact r_load1 (v := .int .u8 (o.kind : Nat)) ty_one25 rfl (st.c0 (by decide))) rfl rfl rfl ?_
  refine WL.fin hK3579 (fun _ _ h => h) ?_
  refine WC.block ?_
  refine WC.seq fun K3580 hK3580 => ?_
  -- region 32
  refine WC.region ?_
  -- R32.0 152 := model.go:138 binOp
  refine WL.v (by exact r_eql rfl rfl (decide_eq_false (by omega))) rfl rfl rfl ?_
  -- R32.1 151 := model.go:138 assign
  refine WL.v (by first | exact r_assign (v := .bool _) rfl | exact r_assign rfl) rfl rfl rfl ?_
  refine WL.fin hK3580 (fun _ _ h => h) ?_
  refine WC.condF rfl rfl ?_
  refine WC.seq fun K3581 hK3581 => ?_
  -- region 39
  refine WC.region ?_
  -- R39.0 178 := model.go:147 binOp
  refine WL.v (by exact r_eql rfl rfl (decide_eq_false (by omega))) rfl rfl rfl ?_
  -- R39.1 177 := model.go:147 assign
  refine WL.v (by first | exact r_assign (v := .bool _) rfl | exact r_assign rfl) rfl rfl rfl ?_
  refine WL.fin hK3581 (fun _ _ h => h) ?_
  refine WC.condF rfl rfl ?_
  refine WC.skipF hK3578 (fun _ _ h => h) ?_
  refine WC.seq fun K3582 hK3582 => ?_
  -- region 48
  refine WC.region ?_
  -- R48.0 214 := model.go:158 move
  refine WL.v (by first | exact r_move (v := .pointer _) rfl | exact r_move rfl) rfl rfl rfl ?_
  -- R48.1 215 := model.go:158 move
  refine WL.v (by first | exact r_move (v := .int _ _) rfl | exact r_move rfl) rfl rfl rfl ?_
  -- R48.2 216 := model.go:158 move
  refine WL.v (by first | exact r_move (v := .int _ _) rfl | exact r_move rfl) rfl rfl rfl ?_
  -- R48.3 217 := model.go:158 load
  refine WL.v (by exact r_loadL (vs := opL o) ty_agg28 rfl ⟨st.c0 (by decide), st.c0 (by decide), st.c0 (by decide), st.c0 (by decide), st.c0 (by decide), trivial⟩) rfl rfl rfl ?_
  -- R48.4 218 := model.go:158 call
  have mh : MK w0 bm mb s P l w := ⟨pv, XP, tv, XO, hp, ho, ((st.drop.perm (by classical exact List.perm_iff_count.2 fun x => by simp only [List.count_append, List.count_cons, List.count_nil, List.append_eq, List.cons_append, List.nil_append, List.append_assoc, Nat.add_zero, Nat.zero_add] <;> ac_rfl) : S0 w0 (moI bm (mrOf s) pv tv mb :: (XP ++ (XO ++ ((mpE (mb t) (odF s t) :: R) ++ l)))) w).perm ((((hR1.symm.append_right l).append_left XO).append_left XP).cons _))⟩
  refine WL.call (r_call ty_call129 rfl) rfl rfl rfl (acquireM_ok hD hk hX64 hC1 hC2 hr20 hc hB hN hI hct hbi hti hnow harm hrel mh) ?_
  rintro _ w ⟨rfl, P', hrel', st⟩
  -- R48.5 6 := model.go:158 assign
  refine WL.v (by first | exact r_assign (v := .int _ _) rfl | exact r_assign rfl) rfl rfl rfl ?_
  refine WL.fin hK3582 (fun _ _ h => h) ?_
  refine WC.ret1 Tryz.results99 (fun _ _ h => h) rfl ?_
  exact ⟨_, rfl, by rw [eS]; rfl, P', by rw [eS]; exact hrel', by rw [eS]; exact st⟩
end Go.Proofs.Qxb6500834aGreatDoor

