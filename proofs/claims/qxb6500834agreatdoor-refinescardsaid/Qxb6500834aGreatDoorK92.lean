import Derived.Test.Qxb6500834aGreatDoorK91
set_option linter.unusedVariables false
set_option linter.unusedSimpArgs false
set_option maxRecDepth 20000
namespace Go.Proofs.Qxb6500834aGreatDoor
open Go.RowKit Go.E1 Go.Kern
variable {w0 : World} {l X : List HI} {w : World} {s s' s0 : KS} {t r N n : Nat} {qv qv' : Nat → Value}
variable {P : List PQ} {m : MR} {pv tv v : Value} {mb : Nat → Nat} {bm : Nat} {T : List (Nat × Nat × Nat)} {O : Nat → Nat → Option Nat} {held claim : Nat → Nat → Nat}
theorem mr_write {o : Kern.Op} {c : Nat} : mrOf { s with tk := updN s.tk t (pushP (s.tk t) c (s.cells c)), cells := updN s.cells c o.X } = { mrOf s with cells := updN s.cells c o.X, wr := updN (mrOf s).wr t ((s.tk t).n + 1) } :=
  mr_n (s := { s with cells := updN s.cells c o.X }) (t := t) (T := pushP (s.tk t) c (s.cells c)) (x := (s.tk t).n + 1) rfl rfl rfl rfl
theorem od_write {o : Kern.Op} {c : Nat} : odF { s with tk := updN s.tk t (pushP (s.tk t) c (s.cells c)), cells := updN s.cells c o.X } = updN (odF s) t (fun d => match odF s t d with | some x => some x | none => if c = d then some (s.cells c) else none) := by
  funext a d
  show oldP (updN s.tk t (pushP (s.tk t) c (s.cells c)) a) d = _
  unfold updN
  split
  · exact old_push
  · rfl
set_option maxHeartbeats 4000000 in
theorem callM7_ok {o : Kern.Op} (hk : o.kind = 7) (hD : gD w0) (hA : o.A = t) (hc : CallOK s t) (hB : KB N s) (hN : N + 100 ≤ 1000000) (hI : INV s) (hct : CT s) (hrel : RelP s P) (st : MK w0 bm mb s P l w) :
    Calls Tryz.prog 99 #[.pointer (some ⟨bm, 0, none⟩), .int .i64 (t : Nat), .agg (opL o).toArray] w (Ret fun v w' => v = .int .i64 (stepP s o).2.1 ∧ ∃ P', RelP (stepP s o).1 P' ∧ MK w0 bm mb (stepP s o).1 P' l w') := by
  obtain ⟨pv, XP, tv, XO, hp, ho, st⟩ := st
  have ht := hc.lt
  have hplen := hrel.len
  have hnn := hB.nn
  obtain ⟨R, hR1, hR2⟩ := mp_at (mb := mb) (D := odF s) ht
  have st : S0 w0 (mpE (mb t) (odF s t) :: (moI bm (mrOf s) pv tv mb :: (XP ++ (XO ++ (R ++ l))))) w := (st.perm ((((hR1.append_right l).append_left XO).append_left XP).cons _) : S0 w0 (moI bm (mrOf s) pv tv mb :: (XP ++ (XO ++ ((mpE (mb t) (odF s t) :: R) ++ l)))) w).perm (by classical exact List.perm_iff_count.2 fun x => by simp only [List.count_append, List.count_cons, List.count_nil, List.append_eq, List.cons_append, List.nil_append, List.append_assoc, Nat.add_zero, Nat.zero_add] <;> ac_rfl)
  have hcal : callerP s (t : Int) = 0 := by
    unfold callerP
    rw [if_neg (by omega), Int.toNat_natCast, hc.live, if_neg (by decide), hc.wait]; rfl
  have hnA : nameP o.A 16 = (t : Int) := by rw [hA]; exact nameP_eq (by omega)
  have eR : stepP s o = ((writeP s (t : Int) (nameP o.B 12) o.X).1, (writeP s (t : Int) (nameP o.B 12) o.X).2, -1) := by
    unfold stepP; rw [hk, ← hnA]; rfl
  by_cases hb : 0 ≤ o.B ∧ o.B < 12
  rotate_left
  · have hnB : nameP o.B 12 = -1 := if_pos (by omega)
    have eS : stepP s o = (s, 18, -1) := by
      rw [eR]; unfold writeP; rw [hcal, if_neg (by decide), hnB, if_pos (.inl (by decide))]
    refine enter [.pointer (some ⟨bm, 0, none⟩), .int .i64 (t : Nat), .agg (opL o).toArray] Tryz.func99 rfl Tryz.ntmps99 rfl ?_
    show WC _ _ _ 219 [] [(0, .pointer (some ⟨bm, 0, none⟩)), (1, .int .i64 (t : Nat)), (2, .agg (opL o).toArray)] _
    refine WC.seq fun K3728 hK3728 => ?_
    -- region 0
    refine WC.region ?_
    -- R0.0 5 := model.go:101 box
    refine WL.box (m := 5) (vs := opL o) st rfl rfl rfl rfl rfl rfl ?_
    intro b5 w st
    have st : S0 w0 ((b5, Row 28 5 (nth (opL o))) :: mpE (mb t) (odF s t) :: (moI bm (mrOf s) pv tv mb :: (XP ++ (XO ++ (R ++ l))))) w := st
    -- R0.1 6 := model.go:101 assign
    refine WL.v (by first | exact r_assign (v := .int _ _) rfl | exact r_assign rfl) rfl rfl rfl ?_
    refine WL.fin hK3728 (fun _ _ h => h) ?_
    refine WC.seq fun K3729 hK3729 => ?_
    refine WC.seq fun K3730 hK3730 => ?_
    -- region 1
    refine WC.region ?_
    -- R1.0 13 := model.go:102 fieldAddr
    refine WL.v (by exact r_field ty_fld28_0 rfl) rfl rfl rfl ?_
    -- R1.1 14 := model.go:102 load
    refine WL.v (by exact r_load1 (v := .int .u8 (o.kind : Nat)) ty_one25 rfl (st.c0 (by decide))) rfl rfl rfl ?_
    refine WL.fin hK3730 (fun _ _ h => h) ?_
    refine WC.block ?_
    refine WC.seq fun K3731 hK3731 => ?_
    -- region 2
    refine WC.region ?_
    -- R2.0 16 := model.go:103 binOp
    refine WL.v (by exact r_eql rfl rfl (decide_eq_false (by omega))) rfl rfl rfl ?_
    -- R2.1 15 := model.go:103 assign
    refine WL.v (by first | exact r_assign (v := .bool _) rfl | exact r_assign rfl) rfl rfl rfl ?_
    refine WL.fin hK3731 (fun _ _ h => h) ?_
    refine WC.condF rfl rfl ?_
    refine WC.seq fun K3732 hK3732 => ?_
    -- region 6
    refine WC.region ?_
    -- R6.0 29 := model.go:107 binOp
    refine WL.v (by exact r_eql rfl rfl (decide_eq_false (by omega))) rfl rfl rfl ?_
    -- R6.1 28 := model.go:107 assign
    refine WL.v (by first | exact r_assign (v := .bool _) rfl | exact r_assign rfl) rfl rfl rfl ?_
    refine WL.fin hK3732 (fun _ _ h => h) ?_
    refine WC.condF rfl rfl ?_
    refine WC.seq fun K3733 hK3733 => ?_
    -- region 14
    refine WC.region ?_
    -- R14.0 76 := model.go:115 binOp
    refine WL.v (by exact r_eql rfl rfl (decide_eq_true (by omega))) rfl rfl rfl ?_
    -- R14.1 75 := model.go:115 assign
    refine WL.v (by first | exact r_assign (v := .bool _) rfl | exact r_assign rfl) rfl rfl rfl ?_
    refine WL.fin hK3733 (fun _ _ h => h) ?_
    refine WC.condT rfl rfl ?_
    refine WC.seq fun K3734 hK3734 => ?_
    refine WC.seq fun K3735 hK3735 => ?_
    -- region 15
    refine WC.region ?_
    -- R15.0 77 := model.go:116 fieldAddr
    refine WL.v (by exact r_field ty_fld28_2 rfl) rfl rfl rfl ?_
    -- R15.1 78 := model.go:116 load
    refine WL.v (by exact r_load1 (v := .int .i64 o.B) ty_one2 rfl (st.c0 (by decide))) rfl rfl rfl ?_
    -- R15.2 79 := model.go:116 call
    refine WL.call (r_call ty_call93 rfl) rfl rfl rfl (withinM_ok (v := o.B) (n := 12) st) ?_
    rintro _ w ⟨he, st⟩
    have he : _ = Value.bool false := he.trans (by unfold wiP; rw [decide_eq_false hb])
    subst he
    -- R15.3 80 := model.go:116 unOp
    refine WL.v (by first | exact r_notT rfl | exact r_notF rfl | exact r_not rfl) rfl rfl rfl ?_
    refine WL.fin hK3735 (fun _ _ h => h) ?_
    refine WC.condT rfl rfl ?_
    refine WC.seq fun K3736 hK3736 => ?_
    -- region 16
    refine WC.region ?_
    -- R16.0 6 := model.go:117 assign
    refine WL.v (by first | exact r_assign (v := .int _ _) rfl | exact r_assign rfl) rfl rfl rfl ?_
    refine WL.fin hK3736 (fun _ _ h => h) ?_
    refine WC.ret1 Tryz.results99 (fun _ _ h => h) rfl ?_
    exact ⟨_, rfl, by rw [eS]; rfl, P, by rw [eS]; exact hrel, by rw [eS]; exact ⟨pv, XP, tv, XO, hp, ho, ((st.drop.perm (by classical exact List.perm_iff_count.2 fun x => by simp only [List.count_append, List.count_cons, List.count_nil, List.append_eq, List.cons_append, List.nil_append, List.append_assoc, Nat.add_zero, Nat.zero_add] <;> ac_rfl) : S0 w0 (moI bm (mrOf s) pv tv mb :: (XP ++ (XO ++ ((mpE (mb t) (odF s t) :: R) ++ l)))) _).perm ((((hR1.symm.append_right l).append_left XO).append_left XP).cons _))⟩⟩
  obtain ⟨c, hcB⟩ : ∃ c : Nat, o.B = c := ⟨o.B.toNat, by omega⟩
  have hc12 : c < 12 := by omega
  have hnB : nameP o.B 12 = (c : Int) := by rw [hcB]; exact nameP_eq (by omega)
  have hn64 := hB.n t
  have eP : writeP s (t : Int) (nameP o.B 12) o.X = if s.held t (8 + c) ≠ 16 then (s, 19) else if (s.tk t).n = 64 then (s, 20) else ({ s with tk := updN s.tk t (pushP (s.tk t) c (s.cells c)), cells := updN s.cells c o.X }, 0) := by
    unfold writeP
    rw [hcal, if_neg (by decide), hnB, if_neg (by omega), Int.toNat_natCast, Int.toNat_natCast]
  by_cases hh : s.held t (8 + c) = 16
  rotate_left
  · have eS : stepP s o = (s, 19, -1) := by rw [eR, eP, if_pos hh]
    refine enter [.pointer (some ⟨bm, 0, none⟩), .int .i64 (t : Nat), .agg (opL o).toArray] Tryz.func99 rfl Tryz.ntmps99 rfl ?_
    show WC _ _ _ 219 [] [(0, .pointer (some ⟨bm, 0, none⟩)), (1, .int .i64 (t : Nat)), (2, .agg (opL o).toArray)] _
    refine WC.seq fun K3737 hK3737 => ?_
    -- region 0
    refine WC.region ?_
    -- R0.0 5 := model.go:101 box
    refine WL.box (m := 5) (vs := opL o) st rfl rfl rfl rfl rfl rfl ?_
    intro b5 w st
    have st : S0 w0 ((b5, Row 28 5 (nth (opL o))) :: mpE (mb t) (odF s t) :: (moI bm (mrOf s) pv tv mb :: (XP ++ (XO ++ (R ++ l))))) w := st
    -- R0.1 6 := model.go:101 assign
    refine WL.v (by first | exact r_assign (v := .int _ _) rfl | exact r_assign rfl) rfl rfl rfl ?_
    refine WL.fin hK3737 (fun _ _ h => h) ?_
    refine WC.seq fun K3738 hK3738 => ?_
    refine WC.seq fun K3739 hK3739 => ?_
    -- region 1
    refine WC.region ?_
    -- R1.0 13 := model.go:102 fieldAddr
    refine WL.v (by exact r_field ty_fld28_0 rfl) rfl rfl rfl ?_
    -- R1.1 14 := model.go:102 load
    refine WL.v (by exact r_load1 (v := .int .u8 (o.kind : Nat)) ty_one25 rfl (st.c0 (by decide))) rfl rfl rfl ?_
    refine WL.fin hK3739 (fun _ _ h => h) ?_
    refine WC.block ?_
    refine WC.seq fun K3740 hK3740 => ?_
    -- region 2
    refine WC.region ?_
    -- R2.0 16 := model.go:103 binOp
    refine WL.v (by exact r_eql rfl rfl (decide_eq_false (by omega))) rfl rfl rfl ?_
    -- R2.1 15 := model.go:103 assign
    refine WL.v (by first | exact r_assign (v := .bool _) rfl | exact r_assign rfl) rfl rfl rfl ?_
    refine WL.fin hK3740 (fun _ _ h => h) ?_
    refine WC.condF rfl rfl ?_
    refine WC.seq fun K3741 hK3741 => ?_
    -- region 6
    refine WC.region ?_
    -- R6.0 29 := model.go:107 binOp
    refine WL.v (by exact r_eql rfl rfl (decide_eq_false (by omega))) rfl rfl rfl ?_
    -- R6.1 28 := model.go:107 assign
    refine WL.v (by first | exact r_assign (v := .bool _) rfl | exact r_assign rfl) rfl rfl rfl ?_
    refine WL.fin hK3741 (fun _ _ h => h) ?_
    refine WC.condF rfl rfl ?_
    refine WC.seq fun K3742 hK3742 => ?_
    -- region 14
    refine WC.region ?_
    -- R14.0 76 := model.go:115 binOp
    refine WL.v (by exact r_eql rfl rfl (decide_eq_true (by omega))) rfl rfl rfl ?_
    -- R14.1 75 := model.go:115 assign
    refine WL.v (by first | exact r_assign (v := .bool _) rfl | exact r_assign rfl) rfl rfl rfl ?_
    refine WL.fin hK3742 (fun _ _ h => h) ?_
    refine WC.condT rfl rfl ?_
    refine WC.seq fun K3743 hK3743 => ?_
    refine WC.seq fun K3744 hK3744 => ?_
    -- region 15
    refine WC.region ?_
    -- R15.0 77 := model.go:116 fieldAddr
    refine WL.v (by exact r_field ty_fld28_2 rfl) rfl rfl rfl ?_
    -- R15.1 78 := model.go:116 load
    refine WL.v (by exact r_load1 (v := .int .i64 o.B) ty_one2 rfl (st.c0 (by decide))) rfl rfl rfl ?_
    -- R15.2 79 := model.go:116 call
    refine WL.call (r_call ty_call93 rfl) rfl rfl rfl (withinM_ok (v := o.B) (n := 12) st) ?_
    rintro _ w ⟨he, st⟩
    have he : _ = Value.bool true := he.trans (by unfold wiP; rw [decide_eq_true hb])
    subst he
    -- R15.3 80 := model.go:116 unOp
    refine WL.v (by first | exact r_notT rfl | exact r_notF rfl | exact r_not rfl) rfl rfl rfl ?_
    refine WL.fin hK3744 (fun _ _ h => h) ?_
    refine WC.condF rfl rfl ?_
    refine WC.skipF hK3743 (fun _ _ h => h) ?_
    refine WC.seq fun K3745 hK3745 => ?_
    -- region 17
    refine WC.region ?_
    -- R17.0 81 := model.go:119 fieldAddr
    refine WL.v (by exact r_field ty_fld28_2 rfl) rfl rfl rfl ?_
    -- R17.1 82 := model.go:119 load
    refine WL.v (by exact r_load1 (v := .int .i64 (c : Nat)) ty_one2 rfl (by rw [← hcB]; exact st.c0 (by decide))) rfl rfl rfl ?_
    -- R17.2 7 := model.go:119 assign
    refine WL.v (by first | exact r_assign (v := .int _ _) rfl | exact r_assign rfl) rfl rfl rfl ?_
    refine WL.fin hK3745 (fun _ _ h => h) ?_
    refine WC.seq fun K3746 hK3746 => ?_
    refine WC.seq fun K3747 hK3747 => ?_
    -- region 18 (draws)
    refine WC.quietS st ty_mixed (by kernel_rfl) fun Kq hKq => ?_
    -- R18.0 83 := model.go:120 move
    refine QL.v (fun w st => by first | exact r_move (v := .pointer _) rfl | exact r_move rfl) rfl rfl rfl ?_
    -- R18.1 84 := model.go:120 move
    refine QL.v (fun w st => by first | exact r_move (v := .int _ _) rfl | exact r_move rfl) rfl rfl rfl ?_
    -- R18.2 85 := model.go:120 move
    refine QL.v (fun w st => by first | exact r_move (v := .int _ _) rfl | exact r_move rfl) rfl rfl rfl ?_
    -- R18.3 86 := model.go:120 call
    refine QL.call (val := .int .i64 ((8 + c : Nat) : Int)) (fun w st => r_call ty_call48 rfl) rfl rfl rfl (fun w st => lockOf_ok (c := c) (by omega) st) ?_
    -- R18.4 87 := model.go:120 nilCheck
    refine QL.v (fun w st => by exact r_nilCheck rfl) rfl rfl rfl ?_
    -- R18.5 88 := model.go:120 fieldAddr
    refine QL.v (fun w st => by exact r_field ty_fld98_7 rfl) rfl rfl rfl ?_
    -- R18.6 89 := model.go:120 indexAddr
    refine QL.v (fun w st => by exact r_indexA (j := t) ty_ar45 rfl rfl rfl ht) rfl rfl rfl ?_
    -- R18.7 90 := model.go:120 indexAddr
    refine QL.v (fun w st => by exact r_indexA (j := 8 + c) ty_ar44 rfl rfl rfl (by omega)) rfl rfl rfl ?_
    -- R18.8 91 := model.go:120 load
    refine QL.v (fun w st => by exact r_load1 (v := .int .i64 (s.held t (8 + c) : Nat)) ty_one3 rfl (c_mheld (m := mrOf s) (List.mem_cons_of_mem _ (List.mem_cons_of_mem _ List.mem_cons_self)) ht (by omega) (by omega) st)) rfl rfl rfl ?_
    -- R18.9 92 := model.go:120 binOp
    refine QL.v (fun w st => by exact r_neq rfl rfl (decide_eq_true (by omega))) rfl rfl rfl ?_
    refine QL.wl hKq fun w st => ?_
    refine WL.fin hK3747 (fun _ _ h => h) ?_
    refine WC.condT rfl rfl ?_
    refine WC.seq fun K3748 hK3748 => ?_
    -- region 19
    refine WC.region ?_
    -- R19.0 6 := model.go:121 assign
    refine WL.v (by first | exact r_assign (v := .int _ _) rfl | exact r_assign rfl) rfl rfl rfl ?_
    refine WL.fin hK3748 (fun _ _ h => h) ?_
    refine WC.ret1 Tryz.results99 (fun _ _ h => h) rfl ?_
    exact ⟨_, rfl, by rw [eS]; rfl, P, by rw [eS]; exact hrel, by rw [eS]; exact ⟨pv, XP, tv, XO, hp, ho, ((st.drop.perm (by classical exact List.perm_iff_count.2 fun x => by simp only [List.count_append, List.count_cons, List.count_nil, List.append_eq, List.cons_append, List.nil_append, List.append_assoc, Nat.add_zero, Nat.zero_add] <;> ac_rfl) : S0 w0 (moI bm (mrOf s) pv tv mb :: (XP ++ (XO ++ ((mpE (mb t) (odF s t) :: R) ++ l)))) _).perm ((((hR1.symm.append_right l).append_left XO).append_left XP).cons _))⟩⟩
  by_cases hn : (s.tk t).n = 64
  · have eS : stepP s o = (s, 20, -1) := by rw [eR, eP, if_neg (fun k => k hh), if_pos hn]
    refine enter [.pointer (some ⟨bm, 0, none⟩), .int .i64 (t : Nat), .agg (opL o).toArray] Tryz.func99 rfl Tryz.ntmps99 rfl ?_
    show WC _ _ _ 219 [] [(0, .pointer (some ⟨bm, 0, none⟩)), (1, .int .i64 (t : Nat)), (2, .agg (opL o).toArray)] _
    refine WC.seq fun K3749 hK3749 => ?_
    -- region 0
    refine WC.region ?_
    -- R0.0 5 := model.go:101 box
    refine WL.box (m := 5) (vs := opL o) st rfl rfl rfl rfl rfl rfl ?_
    intro b5 w st
    have st : S0 w0 ((b5, Row 28 5 (nth (opL o))) :: mpE (mb t) (odF s t) :: (moI bm (mrOf s) pv tv mb :: (XP ++ (XO ++ (R ++ l))))) w := st
    -- R0.1 6 := model.go:101 assign
    refine WL.v (by first | exact r_assign (v := .int _ _) rfl | exact r_assign rfl) rfl rfl rfl ?_
    refine WL.fin hK3749 (fun _ _ h => h) ?_
    refine WC.seq fun K3750 hK3750 => ?_
    refine WC.seq fun K3751 hK3751 => ?_
    -- region 1
    refine WC.region ?_
    -- R1.0 13 := model.go:102 fieldAddr
    refine WL.v (by exact r_field ty_fld28_0 rfl) rfl rfl rfl ?_
    -- R1.1 14 := model.go:102 load
    refine WL.v (by exact r_load1 (v := .int .u8 (o.kind : Nat)) ty_one25 rfl (st.c0 (by decide))) rfl rfl rfl ?_
    refine WL.fin hK3751 (fun _ _ h => h) ?_
    refine WC.block ?_
    refine WC.seq fun K3752 hK3752 => ?_
    -- region 2
    refine WC.region ?_
    -- R2.0 16 := model.go:103 binOp
    refine WL.v (by exact r_eql rfl rfl (decide_eq_false (by omega))) rfl rfl rfl ?_
    -- R2.1 15 := model.go:103 assign
    refine WL.v (by first | exact r_assign (v := .bool _) rfl | exact r_assign rfl) rfl rfl rfl ?_
    refine WL.fin hK3752 (fun _ _ h => h) ?_
    refine WC.condF rfl rfl ?_
    refine WC.seq fun K3753 hK3753 => ?_
    -- region 6
    refine WC.region ?_
    -- R6.0 29 := model.go:107 binOp
    refine WL.v (by exact r_eql rfl rfl (decide_eq_false (by omega))) rfl rfl rfl ?_
    -- R6.1 28 := model.go:107 assign
    refine WL.v (by first | exact r_assign (v := .bool _) rfl | exact r_assign rfl) rfl rfl rfl ?_
    refine WL.fin hK3753 (fun _ _ h => h) ?_
    refine WC.condF rfl rfl ?_
    refine WC.seq fun K3754 hK3754 => ?_
    -- region 14
    refine WC.region ?_
    -- R14.0 76 := model.go:115 binOp
    refine WL.v (by exact r_eql rfl rfl (decide_eq_true (by omega))) rfl rfl rfl ?_
    -- R14.1 75 := model.go:115 assign
    refine WL.v (by first | exact r_assign (v := .bool _) rfl | exact r_assign rfl) rfl rfl rfl ?_
    refine WL.fin hK3754 (fun _ _ h => h) ?_
    refine WC.condT rfl rfl ?_
    refine WC.seq fun K3755 hK3755 => ?_
    refine WC.seq fun K3756 hK3756 => ?_
    -- region 15
    refine WC.region ?_
    -- R15.0 77 := model.go:116 fieldAddr
    refine WL.v (by exact r_field ty_fld28_2 rfl) rfl rfl rfl ?_
    -- R15.1 78 := model.go:116 load
    refine WL.v (by exact r_load1 (v := .int .i64 o.B) ty_one2 rfl (st.c0 (by decide))) rfl rfl rfl ?_
    -- R15.2 79 := model.go:116 call
    refine WL.call (r_call ty_call93 rfl) rfl rfl rfl (withinM_ok (v := o.B) (n := 12) st) ?_
    rintro _ w ⟨he, st⟩
    have he : _ = Value.bool true := he.trans (by unfold wiP; rw [decide_eq_true hb])
    subst he
    -- R15.3 80 := model.go:116 unOp
    refine WL.v (by first | exact r_notT rfl | exact r_notF rfl | exact r_not rfl) rfl rfl rfl ?_
    refine WL.fin hK3756 (fun _ _ h => h) ?_
    refine WC.condF rfl rfl ?_
    refine WC.skipF hK3755 (fun _ _ h => h) ?_
    refine WC.seq fun K3757 hK3757 => ?_
    -- region 17
    refine WC.region ?_
    -- R17.0 81 := model.go:119 fieldAddr
    refine WL.v (by exact r_field ty_fld28_2 rfl) rfl rfl rfl ?_
    -- R17.1 82 := model.go:119 load
    refine WL.v (by exact r_load1 (v := .int .i64 (c : Nat)) ty_one2 rfl (by rw [← hcB]; exact st.c0 (by decide))) rfl rfl rfl ?_
    -- R17.2 7 := model.go:119 assign
    refine WL.v (by first | exact r_assign (v := .int _ _) rfl | exact r_assign rfl) rfl rfl rfl ?_
    refine WL.fin hK3757 (fun _ _ h => h) ?_
    refine WC.seq fun K3758 hK3758 => ?_
    refine WC.seq fun K3759 hK3759 => ?_
    -- region 18 (draws)
    refine WC.quietS st ty_mixed (by kernel_rfl) fun Kq hKq => ?_
    -- R18.0 83 := model.go:120 move
    refine QL.v (fun w st => by first | exact r_move (v := .pointer _) rfl | exact r_move rfl) rfl rfl rfl ?_
    -- R18.1 84 := model.go:120 move
    refine QL.v (fun w st => by first | exact r_move (v := .int _ _) rfl | exact r_move rfl) rfl rfl rfl ?_
    -- R18.2 85 := model.go:120 move
    refine QL.v (fun w st => by first | exact r_move (v := .int _ _) rfl | exact r_move rfl) rfl rfl rfl ?_
    -- R18.3 86 := model.go:120 call
    refine QL.call (val := .int .i64 ((8 + c : Nat) : Int)) (fun w st => r_call ty_call48 rfl) rfl rfl rfl (fun w st => lockOf_ok (c := c) (by omega) st) ?_
    -- R18.4 87 := model.go:120 nilCheck
    refine QL.v (fun w st => by exact r_nilCheck rfl) rfl rfl rfl ?_
    -- R18.5 88 := model.go:120 fieldAddr
    refine QL.v (fun w st => by exact r_field ty_fld98_7 rfl) rfl rfl rfl ?_
    -- R18.6 89 := model.go:120 indexAddr
    refine QL.v (fun w st => by exact r_indexA (j := t) ty_ar45 rfl rfl rfl ht) rfl rfl rfl ?_
    -- R18.7 90 := model.go:120 indexAddr
    refine QL.v (fun w st => by exact r_indexA (j := 8 + c) ty_ar44 rfl rfl rfl (by omega)) rfl rfl rfl ?_
    -- R18.8 91 := model.go:120 load
    refine QL.v (fun w st => by exact r_load1 (v := .int .i64 (s.held t (8 + c) : Nat)) ty_one3 rfl (c_mheld (m := mrOf s) (List.mem_cons_of_mem _ (List.mem_cons_of_mem _ List.mem_cons_self)) ht (by omega) (by omega) st)) rfl rfl rfl ?_
    -- R18.9 92 := model.go:120 binOp
    refine QL.v (fun w st => by exact r_neq rfl rfl (decide_eq_false (by omega))) rfl rfl rfl ?_
    refine QL.wl hKq fun w st => ?_
    refine WL.fin hK3759 (fun _ _ h => h) ?_
    refine WC.condF rfl rfl ?_
    refine WC.skipF hK3758 (fun _ _ h => h) ?_
    refine WC.seq fun K3760 hK3760 => ?_
    refine WC.seq fun K3761 hK3761 => ?_
    -- region 20
    refine WC.region ?_
    -- R20.0 93 := model.go:123 move
    refine WL.v (by first | exact r_move (v := .pointer _) rfl | exact r_move rfl) rfl rfl rfl ?_
    -- R20.1 94 := model.go:123 move
    refine WL.v (by first | exact r_move (v := .int _ _) rfl | exact r_move rfl) rfl rfl rfl ?_
    -- R20.2 95 := model.go:123 nilCheck
    refine WL.v (by exact r_nilCheck rfl) rfl rfl rfl ?_
    -- R20.3 96 := model.go:123 fieldAddr
    refine WL.v (by exact r_field ty_fld98_12 rfl) rfl rfl rfl ?_
    -- R20.4 97 := model.go:123 indexAddr
    refine WL.v (by exact r_indexA (j := t) ty_ar76 rfl rfl rfl ht) rfl rfl rfl ?_
    -- R20.5 98 := model.go:123 load
    refine WL.v (by exact r_load1 (v := .int .i64 ((s.tk t).n : Nat)) ty_one3 rfl (c_mwr (m := mrOf s) (List.mem_cons_of_mem _ (List.mem_cons_of_mem _ List.mem_cons_self)) ht (by omega) st)) rfl rfl rfl ?_
    -- R20.6 99 := model.go:123 binOp
    refine WL.v (by exact r_eql rfl rfl (decide_eq_true (by omega))) rfl rfl rfl ?_
    refine WL.fin hK3761 (fun _ _ h => h) ?_
    refine WC.condT rfl rfl ?_
    refine WC.seq fun K3762 hK3762 => ?_
    -- region 21
    refine WC.region ?_
    -- R21.0 6 := model.go:124 assign
    refine WL.v (by first | exact r_assign (v := .int _ _) rfl | exact r_assign rfl) rfl rfl rfl ?_
    refine WL.fin hK3762 (fun _ _ h => h) ?_
    refine WC.ret1 Tryz.results99 (fun _ _ h => h) rfl ?_
    exact ⟨_, rfl, by rw [eS]; rfl, P, by rw [eS]; exact hrel, by rw [eS]; exact ⟨pv, XP, tv, XO, hp, ho, ((st.drop.perm (by classical exact List.perm_iff_count.2 fun x => by simp only [List.count_append, List.count_cons, List.count_nil, List.append_eq, List.cons_append, List.nil_append, List.append_assoc, Nat.add_zero, Nat.zero_add] <;> ac_rfl) : S0 w0 (moI bm (mrOf s) pv tv mb :: (XP ++ (XO ++ ((mpE (mb t) (odF s t) :: R) ++ l)))) _).perm ((((hR1.symm.append_right l).append_left XO).append_left XP).cons _))⟩⟩
  have eS : stepP s o = ({ s with tk := updN s.tk t (pushP (s.tk t) c (s.cells c)), cells := updN s.cells c o.X }, 0, -1) := by rw [eR, eP, if_neg (fun k => k hh), if_neg hn]
  have hrelS : RelP { s with tk := updN s.tk t (pushP (s.tk t) c (s.cells c)), cells := updN s.cells c o.X } P := hrel.same rfl fun a => by
    show (updN s.tk t _ a).deadline = _ ∧ (updN s.tk t _ a).timer = _
    unfold updN; split
    · rename_i e; rw [e]; exact ⟨rfl, rfl⟩
    · exact ⟨rfl, rfl⟩
  obtain ⟨F, hF⟩ : ∃ F : Nat → Option Nat, F = fun d => match odF s t d with | some x => some x | none => if c = d then some (s.cells c) else none := ⟨_, rfl⟩
  rcases hod : odF s t c with _ | x
  · have eF : F = updN (odF s t) c (some (s.cells c)) := by
      rw [hF]; funext d; unfold updN
      by_cases e : d = c
      · rw [if_pos e, e, hod, if_pos rfl]
      · rw [if_neg e]
        cases hx : odF s t d with
        | some y => rfl
        | none => exact if_neg fun k => e k.symm
    refine enter [.pointer (some ⟨bm, 0, none⟩), .int .i64 (t : Nat), .agg (opL o).toArray] Tryz.func99 rfl Tryz.ntmps99 rfl ?_
    show WC _ _ _ 219 [] [(0, .pointer (some ⟨bm, 0, none⟩)), (1, .int .i64 (t : Nat)), (2, .agg (opL o).toArray)] _
    refine WC.seq fun K3763 hK3763 => ?_
    -- region 0
    refine WC.region ?_
    -- R0.0 5 := model.go:101 box
    refine WL.box (m := 5) (vs := opL o) st rfl rfl rfl rfl rfl rfl ?_
    intro b5 w st
    have st : S0 w0 ((b5, Row 28 5 (nth (opL o))) :: mpE (mb t) (odF s t) :: (moI bm (mrOf s) pv tv mb :: (XP ++ (XO ++ (R ++ l))))) w := st
    -- R0.1 6 := model.go:101 assign
    refine WL.v (by first | exact r_assign (v := .int _ _) rfl | exact r_assign rfl) rfl rfl rfl ?_
    refine WL.fin hK3763 (fun _ _ h => h) ?_
    refine WC.seq fun K3764 hK3764 => ?_
    refine WC.seq fun K3765 hK3765 => ?_
    -- region 1
    refine WC.region ?_
    -- R1.0 13 := model.go:102 fieldAddr
    refine WL.v (by exact r_field ty_fld28_0 rfl) rfl rfl rfl ?_
    -- R1.1 14 := model.go:102 load
    refine WL.v (by exact r_load1 (v := .int .u8 (o.kind : Nat)) ty_one25 rfl (st.c0 (by decide))) rfl rfl rfl ?_
    refine WL.fin hK3765 (fun _ _ h => h) ?_
    refine WC.block ?_
    refine WC.seq fun K3766 hK3766 => ?_
    -- region 2
    refine WC.region ?_
    -- R2.0 16 := model.go:103 binOp
    refine WL.v (by exact r_eql rfl rfl (decide_eq_false (by omega))) rfl rfl rfl ?_
    -- R2.1 15 := model.go:103 assign
    refine WL.v (by first | exact r_assign (v := .bool _) rfl | exact r_assign rfl) rfl rfl rfl ?_
    refine WL.fin hK3766 (fun _ _ h => h) ?_
    refine WC.condF rfl rfl ?_
    refine WC.seq fun K3767 hK3767 => ?_
    -- region 6
    refine WC.region ?_
    -- R6.0 29 := model.go:107 binOp
    refine WL.v (by exact r_eql rfl rfl (decide_eq_false (by omega))) rfl rfl rfl ?_
    -- R6.1 28 := model.go:107 assign
    refine WL.v (by first | exact r_assign (v := .bool _) rfl | exact r_assign rfl) rfl rfl rfl ?_
    refine WL.fin hK3767 (fun _ _ h => h) ?_
    refine WC.condF rfl rfl ?_
    refine WC.seq fun K3768 hK3768 => ?_
    -- region 14
    refine WC.region ?_
    -- R14.0 76 := model.go:115 binOp
    refine WL.v (by exact r_eql rfl rfl (decide_eq_true (by omega))) rfl rfl rfl ?_
    -- R14.1 75 := model.go:115 assign
    refine WL.v (by first | exact r_assign (v := .bool _) rfl | exact r_assign rfl) rfl rfl rfl ?_
    refine WL.fin hK3768 (fun _ _ h => h) ?_
    refine WC.condT rfl rfl ?_
    refine WC.seq fun K3769 hK3769 => ?_
    refine WC.seq fun K3770 hK3770 => ?_
    -- region 15
    refine WC.region ?_
    -- R15.0 77 := model.go:116 fieldAddr
    refine WL.v (by exact r_field ty_fld28_2 rfl) rfl rfl rfl ?_
    -- R15.1 78 := model.go:116 load
    refine WL.v (by exact r_load1 (v := .int .i64 o.B) ty_one2 rfl (st.c0 (by decide))) rfl rfl rfl ?_
    -- R15.2 79 := model.go:116 call
    refine WL.call (r_call ty_call93 rfl) rfl rfl rfl (withinM_ok (v := o.B) (n := 12) st) ?_
    rintro _ w ⟨he, st⟩
    have he : _ = Value.bool true := he.trans (by unfold wiP; rw [decide_eq_true hb])
    subst he
    -- R15.3 80 := model.go:116 unOp
    refine WL.v (by first | exact r_notT rfl | exact r_notF rfl | exact r_not rfl) rfl rfl rfl ?_
    refine WL.fin hK3770 (fun _ _ h => h) ?_
    refine WC.condF rfl rfl ?_
    refine WC.skipF hK3769 (fun _ _ h => h) ?_
    refine WC.seq fun K3771 hK3771 => ?_
    -- region 17
    refine WC.region ?_
    -- R17.0 81 := model.go:119 fieldAddr
    refine WL.v (by exact r_field ty_fld28_2 rfl) rfl rfl rfl ?_
    -- R17.1 82 := model.go:119 load
    refine WL.v (by exact r_load1 (v := .int .i64 (c : Nat)) ty_one2 rfl (by rw [← hcB]; exact st.c0 (by decide))) rfl rfl rfl ?_
    -- R17.2 7 := model.go:119 assign
    refine WL.v (by first | exact r_assign (v := .int _ _) rfl | exact r_assign rfl) rfl rfl rfl ?_
    refine WL.fin hK3771 (fun _ _ h => h) ?_
    refine WC.seq fun K3772 hK3772 => ?_
    refine WC.seq fun K3773 hK3773 => ?_
    -- region 18 (draws)
    refine WC.quietS st ty_mixed (by kernel_rfl) fun Kq hKq => ?_
    -- R18.0 83 := model.go:120 move
    refine QL.v (fun w st => by first | exact r_move (v := .pointer _) rfl | exact r_move rfl) rfl rfl rfl ?_
    -- R18.1 84 := model.go:120 move
    refine QL.v (fun w st => by first | exact r_move (v := .int _ _) rfl | exact r_move rfl) rfl rfl rfl ?_
    -- R18.2 85 := model.go:120 move
    refine QL.v (fun w st => by first | exact r_move (v := .int _ _) rfl | exact r_move rfl) rfl rfl rfl ?_
    -- R18.3 86 := model.go:120 call
    refine QL.call (val := .int .i64 ((8 + c : Nat) : Int)) (fun w st => r_call ty_call48 rfl) rfl rfl rfl (fun w st => lockOf_ok (c := c) (by omega) st) ?_
    -- R18.4 87 := model.go:120 nilCheck
    refine QL.v (fun w st => by exact r_nilCheck rfl) rfl rfl rfl ?_
    -- R18.5 88 := model.go:120 fieldAddr
    refine QL.v (fun w st => by exact r_field ty_fld98_7 rfl) rfl rfl rfl ?_
    -- R18.6 89 := model.go:120 indexAddr
    refine QL.v (fun w st => by exact r_indexA (j := t) ty_ar45 rfl rfl rfl ht) rfl rfl rfl ?_
    -- R18.7 90 := model.go:120 indexAddr
    refine QL.v (fun w st => by exact r_indexA (j := 8 + c) ty_ar44 rfl rfl rfl (by omega)) rfl rfl rfl ?_
    -- R18.8 91 := model.go:120 load
    refine QL.v (fun w st => by exact r_load1 (v := .int .i64 (s.held t (8 + c) : Nat)) ty_one3 rfl (c_mheld (m := mrOf s) (List.mem_cons_of_mem _ (List.mem_cons_of_mem _ List.mem_cons_self)) ht (by omega) (by omega) st)) rfl rfl rfl ?_
    -- R18.9 92 := model.go:120 binOp
    refine QL.v (fun w st => by exact r_neq rfl rfl (decide_eq_false (by omega))) rfl rfl rfl ?_
    refine QL.wl hKq fun w st => ?_
    refine WL.fin hK3773 (fun _ _ h => h) ?_
    refine WC.condF rfl rfl ?_
    refine WC.skipF hK3772 (fun _ _ h => h) ?_
    refine WC.seq fun K3774 hK3774 => ?_
    refine WC.seq fun K3775 hK3775 => ?_
    -- region 20
    refine WC.region ?_
    -- R20.0 93 := model.go:123 move
    refine WL.v (by first | exact r_move (v := .pointer _) rfl | exact r_move rfl) rfl rfl rfl ?_
    -- R20.1 94 := model.go:123 move
    refine WL.v (by first | exact r_move (v := .int _ _) rfl | exact r_move rfl) rfl rfl rfl ?_
    -- R20.2 95 := model.go:123 nilCheck
    refine WL.v (by exact r_nilCheck rfl) rfl rfl rfl ?_
    -- R20.3 96 := model.go:123 fieldAddr
    refine WL.v (by exact r_field ty_fld98_12 rfl) rfl rfl rfl ?_
    -- R20.4 97 := model.go:123 indexAddr
    refine WL.v (by exact r_indexA (j := t) ty_ar76 rfl rfl rfl ht) rfl rfl rfl ?_
    -- R20.5 98 := model.go:123 load
    refine WL.v (by exact r_load1 (v := .int .i64 ((s.tk t).n : Nat)) ty_one3 rfl (c_mwr (m := mrOf s) (List.mem_cons_of_mem _ (List.mem_cons_of_mem _ List.mem_cons_self)) ht (by omega) st)) rfl rfl rfl ?_
    -- R20.6 99 := model.go:123 binOp
    refine WL.v (by exact r_eql rfl rfl (decide_eq_false (by omega))) rfl rfl rfl ?_
    refine WL.fin hK3775 (fun _ _ h => h) ?_
    refine WC.condF rfl rfl ?_
    refine WC.skipF hK3774 (fun _ _ h => h) ?_
    refine WC.seq fun K3776 hK3776 => ?_
    refine WC.seq fun K3777 hK3777 => ?_
    -- region 22
    refine WC.region ?_
    -- R22.0 101 := model.go:126 move
    refine WL.v (by first | exact r_move (v := .pointer _) rfl | exact r_move rfl) rfl rfl rfl ?_
    -- R22.1 102 := model.go:126 move
    refine WL.v (by first | exact r_move (v := .int _ _) rfl | exact r_move rfl) rfl rfl rfl ?_
    -- R22.2 103 := model.go:126 nilCheck
    refine WL.v (by exact r_nilCheck rfl) rfl rfl rfl ?_
    -- R22.3 104 := model.go:126 fieldAddr
    refine WL.v (by exact r_field ty_fld98_11 rfl) rfl rfl rfl ?_
    -- R22.4 105 := model.go:126 indexAddr
    refine WL.v (by exact r_indexA (j := t) ty_ar73 rfl rfl rfl ht) rfl rfl rfl ?_
    -- R22.5 106 := model.go:126 load
    refine WL.v (by exact r_load1 (v := .map (some (mb t))) ty_one72 rfl (c_mbefore (List.mem_cons_of_mem _ (List.mem_cons_of_mem _ List.mem_cons_self)) ht (by omega) st)) rfl rfl rfl ?_
    -- R22.6 107 := model.go:126 move
    refine WL.v (by first | exact r_move (v := .int _ _) rfl | exact r_move rfl) rfl rfl rfl ?_
    -- R22.7 108 := model.go:126 lookup
    refine WL.v (by exact r_lookok (key := .int .i64 (c : Nat)) (v := .int .u64 0) (t := false) ty_kb74 ty_mp72 ty_z126 rfl rfl st (List.mem_cons_of_mem _ List.mem_cons_self) (goodCell (by omega)) (by show (odV (odF s t) (c : Nat)).getD _ = _; unfold odV; rw [if_pos (by omega), Int.toNat_natCast, hod]; rfl) (by show (odV (odF s t) (c : Nat)).isSome = _; unfold odV; rw [if_pos (by omega), Int.toNat_natCast, hod]; rfl)) rfl rfl rfl ?_
    -- R22.8 100 := model.go:126 move
    refine WL.v (by first | exact r_move (v := .tuple _) rfl | exact r_move rfl) rfl rfl rfl ?_
    -- R22.9 109 := model.go:126 extract
    refine WL.v (by first | exact r_extract (v := .int _ _) rfl rfl | exact r_extract rfl rfl) rfl rfl rfl ?_
    -- R22.10 110 := model.go:126 extract
    refine WL.v (by first | exact r_extract (v := .bool _) rfl rfl | exact r_extract rfl rfl) rfl rfl rfl ?_
    -- R22.11 8 := model.go:126 assign
    refine WL.v (by first | exact r_assign (v := .int _ _) rfl | exact r_assign rfl) rfl rfl rfl ?_
    -- R22.12 9 := model.go:126 assign
    refine WL.v (by first | exact r_assign (v := .bool _) rfl | exact r_assign rfl) rfl rfl rfl ?_
    refine WL.fin hK3777 (fun _ _ h => h) ?_
    refine WC.seq fun K3778 hK3778 => ?_
    -- region 23
    refine WC.region ?_
    -- R23.0 111 := model.go:126 move
    refine WL.v (by first | exact r_move (v := .bool _) rfl | exact r_move rfl) rfl rfl rfl ?_
    -- R23.1 112 := model.go:126 unOp
    refine WL.v (by first | exact r_notT rfl | exact r_notF rfl | exact r_not rfl) rfl rfl rfl ?_
    refine WL.fin hK3778 (fun _ _ h => h) ?_
    refine WC.condT rfl rfl ?_
    -- region 24 (draws)
    refine WC.tailS 13 st ty_mixed (by kernel_rfl) fun w st Kq hKq => ?_
    -- R24.0 113 := model.go:127 move
    refine SL.v (by first | exact r_move (v := .pointer _) rfl | exact r_move rfl) rfl rfl rfl ?_
    -- R24.1 114 := model.go:127 move
    refine SL.v (by first | exact r_move (v := .int _ _) rfl | exact r_move rfl) rfl rfl rfl ?_
    -- R24.2 115 := model.go:127 nilCheck
    refine SL.v (by exact r_nilCheck rfl) rfl rfl rfl ?_
    -- R24.3 116 := model.go:127 fieldAddr
    refine SL.v (by exact r_field ty_fld98_11 rfl) rfl rfl rfl ?_
    -- R24.4 117 := model.go:127 indexAddr
    refine SL.v (by exact r_indexA (j := t) ty_ar73 rfl rfl rfl ht) rfl rfl rfl ?_
    -- R24.5 118 := model.go:127 load
    refine SL.v (by exact r_load1 (v := .map (some (mb t))) ty_one72 rfl (c_mbefore (List.mem_cons_of_mem _ (List.mem_cons_of_mem _ List.mem_cons_self)) ht (by omega) st)) rfl rfl rfl ?_
    -- R24.6 119 := model.go:127 move
    refine SL.v (by first | exact r_move (v := .int _ _) rfl | exact r_move rfl) rfl rfl rfl ?_
    -- R24.7 120 := model.go:127 move
    refine SL.v (by first | exact r_move (v := .pointer _) rfl | exact r_move rfl) rfl rfl rfl ?_
    -- R24.8 121 := model.go:127 move
    refine SL.v (by first | exact r_move (v := .int _ _) rfl | exact r_move rfl) rfl rfl rfl ?_
    -- R24.9 122 := model.go:127 nilCheck
    refine SL.v (by exact r_nilCheck rfl) rfl rfl rfl ?_
    -- R24.10 123 := model.go:127 fieldAddr
    refine SL.v (by exact r_field ty_fld98_10 rfl) rfl rfl rfl ?_
    -- R24.11 124 := model.go:127 indexAddr
    refine SL.v (by exact r_indexA (j := c) ty_ar48 rfl rfl rfl hc12) rfl rfl rfl ?_
    -- R24.12 125 := model.go:127 load
    refine SL.v (by exact r_load1 (v := .int .u64 (s.cells c : Nat)) ty_one26 rfl (c_mcells (m := mrOf s) (List.mem_cons_of_mem _ (List.mem_cons_of_mem _ List.mem_cons_self)) hc12 (by omega) st)) rfl rfl rfl ?_
    refine SL.fin hKq ?_
    -- R24.13 None := model.go:127 mapUpdate
    refine WL.mapSetI (s := (c : Nat)) (val := .int .u64 (s.cells c : Nat)) ty_kb74 st.front1 ty_mp72 rfl rfl rfl (goodCell (by omega)) rfl rfl ?_
    intro w st
    rw [odV_set, ← eF] at st
    have st : S0 w0 ((b5, Row 28 5 (nth (opL o))) :: mpE (mb t) F :: (moI bm (mrOf s) pv tv mb :: (XP ++ (XO ++ (R ++ l))))) w := st.front1
    refine WL.fin hK3776 (fun _ _ h => h) ?_
    refine WC.seq fun K3779 hK3779 => ?_
    -- region 25 (draws)
    refine WC.tailS 7 st ty_mixed (by kernel_rfl) fun w st Kq hKq => ?_
    -- R25.0 126 := model.go:129 move
    refine SL.v (by first | exact r_move (v := .pointer _) rfl | exact r_move rfl) rfl rfl rfl ?_
    -- R25.1 127 := model.go:129 move
    refine SL.v (by first | exact r_move (v := .int _ _) rfl | exact r_move rfl) rfl rfl rfl ?_
    -- R25.2 128 := model.go:129 fieldAddr
    refine SL.v (by exact r_field ty_fld28_4 rfl) rfl rfl rfl ?_
    -- R25.3 129 := model.go:129 load
    refine SL.v (by exact r_load1 (v := .int .u64 (o.X : Nat)) ty_one26 rfl (st.c0 (by decide))) rfl rfl rfl ?_
    -- R25.4 130 := model.go:129 nilCheck
    refine SL.v (by exact r_nilCheck rfl) rfl rfl rfl ?_
    -- R25.5 131 := model.go:129 fieldAddr
    refine SL.v (by exact r_field ty_fld98_10 rfl) rfl rfl rfl ?_
    -- R25.6 132 := model.go:129 indexAddr
    refine SL.v (by exact r_indexA (j := c) ty_ar48 rfl rfl rfl hc12) rfl rfl rfl ?_
    refine SL.fin hKq ?_
    -- R25.7 None := model.go:129 store
    refine WL.store (v := .int .u64 (o.X : Nat)) st.front2 ty_one26 rfl rfl rfl (by omega) rfl rfl ?_
    intro w st
    have st : S0 w0 (moI bm { mrOf s with cells := updN s.cells c o.X } pv tv mb :: (b5, Row 28 5 (nth (opL o))) :: mpE (mb t) F :: (XP ++ (XO ++ (R ++ l)))) w := stE (mw_cells hc12) st
    refine WL.fin hK3779 (fun _ _ h => h) ?_
    refine WC.seq fun K3780 hK3780 => ?_
    -- region 26 (draws)
    refine WC.tailS 10 st ty_mixed (by kernel_rfl) fun w st Kq hKq => ?_
    -- R26.0 133 := model.go:130 move
    refine SL.v (by first | exact r_move (v := .pointer _) rfl | exact r_move rfl) rfl rfl rfl ?_
    -- R26.1 134 := model.go:130 move
    refine SL.v (by first | exact r_move (v := .int _ _) rfl | exact r_move rfl) rfl rfl rfl ?_
    -- R26.2 135 := model.go:130 nilCheck
    refine SL.v (by exact r_nilCheck rfl) rfl rfl rfl ?_
    -- R26.3 136 := model.go:130 fieldAddr
    refine SL.v (by exact r_field ty_fld98_12 rfl) rfl rfl rfl ?_
    -- R26.4 137 := model.go:130 indexAddr
    refine SL.v (by exact r_indexA (j := t) ty_ar76 rfl rfl rfl ht) rfl rfl rfl ?_
    -- R26.5 138 := model.go:130 load
    refine SL.v (by exact r_load1 (v := .int .i64 ((s.tk t).n : Nat)) ty_one3 rfl (c_mwr (m := { mrOf s with cells := updN s.cells c o.X }) List.mem_cons_self ht (by omega) st)) rfl rfl rfl ?_
    -- R26.6 139 := model.go:130 binOp
    refine SL.v (by exact r_add (r := (((s.tk t).n + 1 : Nat) : Int)) rfl rfl ((wi64 (by omega) (by omega)).trans (by omega))) rfl rfl rfl ?_
    -- R26.7 140 := model.go:130 nilCheck
    refine SL.v (by exact r_nilCheck rfl) rfl rfl rfl ?_
    -- R26.8 141 := model.go:130 fieldAddr
    refine SL.v (by exact r_field ty_fld98_12 rfl) rfl rfl rfl ?_
    -- R26.9 142 := model.go:130 indexAddr
    refine SL.v (by exact r_indexA (j := t) ty_ar76 rfl rfl rfl ht) rfl rfl rfl ?_
    refine SL.fin hKq ?_
    -- R26.10 None := model.go:130 store
    refine WL.store (v := .int .i64 (((s.tk t).n + 1 : Nat) : Int)) st ty_one3 rfl rfl rfl (by omega) rfl rfl ?_
    intro w st
    have st : S0 w0 (moI bm { mrOf s with cells := updN s.cells c o.X, wr := updN (mrOf s).wr t ((s.tk t).n + 1) } pv tv mb :: (b5, Row 28 5 (nth (opL o))) :: mpE (mb t) F :: (XP ++ (XO ++ (R ++ l)))) w := stE (mw_wr ht) st
    have mh : MK w0 bm mb { s with tk := updN s.tk t (pushP (s.tk t) c (s.cells c)), cells := updN s.cells c o.X } P l w := by unfold MK; rw [mr_write, od_write, ← hF]; exact ⟨pv, XP, tv, XO, hp, ho, ((st.perm (by classical exact List.perm_iff_count.2 fun x => by simp only [List.count_append, List.count_cons, List.count_nil, List.append_eq, List.cons_append, List.nil_append, List.append_assoc, Nat.add_zero, Nat.zero_add] <;> ac_rfl) : S0 w0 ((b5, Row 28 5 (nth (opL o))) :: (moI bm { mrOf s with cells := updN s.cells c o.X, wr := updN (mrOf s).wr t ((s.tk t).n + 1) } pv tv mb :: (XP ++ (XO ++ ((mpE (mb t) F :: R) ++ l))))) w).drop.perm (((((hR2 F).symm.append_right l).append_left XO).append_left XP).cons _))⟩
    refine WL.fin hK3780 (fun _ _ h => h) ?_
    refine WC.seq fun K3781 hK3781 => ?_
    -- region 27
    refine WC.region ?_
    -- R27.0 6 := model.go:131 assign
    refine WL.v (by first | exact r_assign (v := .int _ _) rfl | exact r_assign rfl) rfl rfl rfl ?_
    refine WL.fin hK3781 (fun _ _ h => h) ?_
    refine WC.ret1 Tryz.results99 (fun _ _ h => h) rfl ?_
    exact ⟨_, rfl, by rw [eS]; rfl, P, by rw [eS]; exact hrelS, by rw [eS]; exact mh⟩
  · have eF : F = odF s t := by
      rw [hF]; funext d
      cases hx : odF s t d with
      | some y => rfl
      | none => exact if_neg fun k => by rw [← k, hod] at hx; cases hx
    have st : S0 w0 (mpE (mb t) F :: (moI bm (mrOf s) pv tv mb :: (XP ++ (XO ++ (R ++ l))))) w := by rw [eF]; exact st
    rw [← eF] at hod
    refine enter [.pointer (some ⟨bm, 0, none⟩), .int .i64 (t : Nat), .agg (opL o).toArray] Tryz.func99 rfl Tryz.ntmps99 rfl ?_
    show WC _ _ _ 219 [] [(0, .pointer (some ⟨bm, 0, none⟩)), (1, .int .i64 (t : Nat)), (2, .agg (opL o).toArray)] _
    refine WC.seq fun K3782 hK3782 => ?_
    -- region 0
    refine WC.region ?_
    -- R0.0 5 := model.go:101 box
    refine WL.box (m := 5) (vs := opL o) st rfl rfl rfl rfl rfl rfl ?_
    intro b5 w st
    have st : S0 w0 ((b5, Row 28 5 (nth (opL o))) :: mpE (mb t) F :: (moI bm (mrOf s) pv tv mb :: (XP ++ (XO ++ (R ++ l))))) w := st
    -- R0.1 6 := model.go:101 assign
    refine WL.v (by first | exact r_assign (v := .int _ _) rfl | exact r_assign rfl) rfl rfl rfl ?_
    refine WL.fin hK3782 (fun _ _ h => h) ?_
    refine WC.seq fun K3783 hK3783 => ?_
    refine WC.seq fun K3784 hK3784 => ?_
    -- region 1
    refine WC.region ?_
    -- R1.0 13 := model.go:102 fieldAddr
    refine WL.v (by exact r_field ty_fld28_0 rfl) rfl rfl rfl ?_
    -- R1.1 14 := model.go:102 load
    refine WL.v (by exact r_load1 (v := .int .u8 (o.kind : Nat)) ty_one25 rfl (st.c0 (by decide))) rfl rfl rfl ?_
    refine WL.fin hK3784 (fun _ _ h => h) ?_
    refine WC.block ?_
    refine WC.seq fun K3785 hK3785 => ?_
    -- region 2
    refine WC.region ?_
    -- R2.0 16 := model.go:103 binOp
    refine WL.v (by exact r_eql rfl rfl (decide_eq_false (by omega))) rfl rfl rfl ?_
    -- R2.1 15 := model.go:103 assign
    refine WL.v (by first | exact r_assign (v := .bool _) rfl | exact r_assign rfl) rfl rfl rfl ?_
    refine WL.fin hK3785 (fun _ _ h => h) ?_
    refine WC.condF rfl rfl ?_
    refine WC.seq fun K3786 hK3786 => ?_
    -- region 6
    refine WC.region ?_
    -- R6.0 29 := model.go:107 binOp
    refine WL.v (by exact r_eql rfl rfl (decide_eq_false (by omega))) rfl rfl rfl ?_
    -- R6.1 28 := model.go:107 assign
    refine WL.v (by first | exact r_assign (v := .bool _) rfl | exact r_assign rfl) rfl rfl rfl ?_
    refine WL.fin hK3786 (fun _ _ h => h) ?_
    refine WC.condF rfl rfl ?_
    refine WC.seq fun K3787 hK3787 => ?_
    -- region 14
    refine WC.region ?_
    -- R14.0 76 := model.go:115 binOp
    refine WL.v (by exact r_eql rfl rfl (decide_eq_true (by omega))) rfl rfl rfl ?_
    -- R14.1 75 := model.go:115 assign
    refine WL.v (by first | exact r_assign (v := .bool _) rfl | exact r_assign rfl) rfl rfl rfl ?_
    refine WL.fin hK3787 (fun _ _ h => h) ?_
    refine WC.condT rfl rfl ?_
    refine WC.seq fun K3788 hK3788 => ?_
    refine WC.seq fun K3789 hK3789 => ?_
    -- region 15
    refine WC.region ?_
    -- R15.0 77 := model.go:116 fieldAddr
    refine WL.v (by exact r_field ty_fld28_2 rfl) rfl rfl rfl ?_
    -- R15.1 78 := model.go:116 load
    refine WL.v (by exact r_load1 (v := .int .i64 o.B) ty_one2 rfl (st.c0 (by decide))) rfl rfl rfl ?_
    -- R15.2 79 := model.go:116 call
    refine WL.call (r_call ty_call93 rfl) rfl rfl rfl (withinM_ok (v := o.B) (n := 12) st) ?_
    rintro _ w ⟨he, st⟩
    have he : _ = Value.bool true := he.trans (by unfold wiP; rw [decide_eq_true hb])
    subst he
    -- R15.3 80 := model.go:116 unOp
    refine WL.v (by first | exact r_notT rfl | exact r_notF rfl | exact r_not rfl) rfl rfl rfl ?_
    refine WL.fin hK3789 (fun _ _ h => h) ?_
    refine WC.condF rfl rfl ?_
    refine WC.skipF hK3788 (fun _ _ h => h) ?_
    refine WC.seq fun K3790 hK3790 => ?_
    -- region 17
    refine WC.region ?_
    -- R17.0 81 := model.go:119 fieldAddr
    refine WL.v (by exact r_field ty_fld28_2 rfl) rfl rfl rfl ?_
    -- R17.1 82 := model.go:119 load
    refine WL.v (by exact r_load1 (v := .int .i64 (c : Nat)) ty_one2 rfl (by rw [← hcB]; exact st.c0 (by decide))) rfl rfl rfl ?_
    -- R17.2 7 := model.go:119 assign
    refine WL.v (by first | exact r_assign (v := .int _ _) rfl | exact r_assign rfl) rfl rfl rfl ?_
    refine WL.fin hK3790 (fun _ _ h => h) ?_
    refine WC.seq fun K3791 hK3791 => ?_
    refine WC.seq fun K3792 hK3792 => ?_
    -- region 18 (draws)
    refine WC.quietS st ty_mixed (by kernel_rfl) fun Kq hKq => ?_
    -- R18.0 83 := model.go:120 move
    refine QL.v (fun w st => by first | exact r_move (v := .pointer _) rfl | exact r_move rfl) rfl rfl rfl ?_
    -- R18.1 84 := model.go:120 move
    refine QL.v (fun w st => by first | exact r_move (v := .int _ _) rfl | exact r_move rfl) rfl rfl rfl ?_
    -- R18.2 85 := model.go:120 move
    refine QL.v (fun w st => by first | exact r_move (v := .int _ _) rfl | exact r_move rfl) rfl rfl rfl ?_
    -- R18.3 86 := model.go:120 call
    refine QL.call (val := .int .i64 ((8 + c : Nat) : Int)) (fun w st => r_call ty_call48 rfl) rfl rfl rfl (fun w st => lockOf_ok (c := c) (by omega) st) ?_
    -- R18.4 87 := model.go:120 nilCheck
    refine QL.v (fun w st => by exact r_nilCheck rfl) rfl rfl rfl ?_
    -- R18.5 88 := model.go:120 fieldAddr
    refine QL.v (fun w st => by exact r_field ty_fld98_7 rfl) rfl rfl rfl ?_
    -- R18.6 89 := model.go:120 indexAddr
    refine QL.v (fun w st => by exact r_indexA (j := t) ty_ar45 rfl rfl rfl ht) rfl rfl rfl ?_
    -- R18.7 90 := model.go:120 indexAddr
    refine QL.v (fun w st => by exact r_indexA (j := 8 + c) ty_ar44 rfl rfl rfl (by omega)) rfl rfl rfl ?_
    -- R18.8 91 := model.go:120 load
    refine QL.v (fun w st => by exact r_load1 (v := .int .i64 (s.held t (8 + c) : Nat)) ty_one3 rfl (c_mheld (m := mrOf s) (List.mem_cons_of_mem _ (List.mem_cons_of_mem _ List.mem_cons_self)) ht (by omega) (by omega) st)) rfl rfl rfl ?_
    -- R18.9 92 := model.go:120 binOp
    refine QL.v (fun w st => by exact r_neq rfl rfl (decide_eq_false (by omega))) rfl rfl rfl ?_
    refine QL.wl hKq fun w st => ?_
    refine WL.fin hK3792 (fun _ _ h => h) ?_
    refine WC.condF rfl rfl ?_
    refine WC.skipF hK3791 (fun _ _ h => h) ?_
    refine WC.seq fun K3793 hK3793 => ?_
    refine WC.seq fun K3794 hK3794 => ?_
    -- region 20
    refine WC.region ?_
    -- R20.0 93 := model.go:123 move
    refine WL.v (by first | exact r_move (v := .pointer _) rfl | exact r_move rfl) rfl rfl rfl ?_
    -- R20.1 94 := model.go:123 move
    refine WL.v (by first | exact r_move (v := .int _ _) rfl | exact r_move rfl) rfl rfl rfl ?_
    -- R20.2 95 := model.go:123 nilCheck
    refine WL.v (by exact r_nilCheck rfl) rfl rfl rfl ?_
    -- R20.3 96 := model.go:123 fieldAddr
    refine WL.v (by exact r_field ty_fld98_12 rfl) rfl rfl rfl ?_
    -- R20.4 97 := model.go:123 indexAddr
    refine WL.v (by exact r_indexA (j := t) ty_ar76 rfl rfl rfl ht) rfl rfl rfl ?_
    -- R20.5 98 := model.go:123 load
    refine WL.v (by exact r_load1 (v := .int .i64 ((s.tk t).n : Nat)) ty_one3 rfl (c_mwr (m := mrOf s) (List.mem_cons_of_mem _ (List.mem_cons_of_mem _ List.mem_cons_self)) ht (by omega) st)) rfl rfl rfl ?_
    -- R20.6 99 := model.go:123 binOp
    refine WL.v (by exact r_eql rfl rfl (decide_eq_false (by omega))) rfl rfl rfl ?_
    refine WL.fin hK3794 (fun _ _ h => h) ?_
    refine WC.condF rfl rfl ?_
    refine WC.skipF hK3793 (fun _ _ h => h) ?_
    refine WC.seq fun K3795 hK3795 => ?_
    refine WC.seq fun K3796 hK3796 => ?_
    -- region 22
    refine WC.region ?_
    -- R22.0 101 := model.go:126 move
    refine WL.v (by first | exact r_move (v := .pointer _) rfl | exact r_move rfl) rfl rfl rfl ?_
    -- R22.1 102 := model.go:126 move
    refine WL.v (by first | exact r_move (v := .int _ _) rfl | exact r_move rfl) rfl rfl rfl ?_
    -- R22.2 103 := model.go:126 nilCheck
    refine WL.v (by exact r_nilCheck rfl) rfl rfl rfl ?_
    -- R22.3 104 := model.go:126 fieldAddr
    refine WL.v (by exact r_field ty_fld98_11 rfl) rfl rfl rfl ?_
    -- R22.4 105 := model.go:126 indexAddr
    refine WL.v (by exact r_indexA (j := t) ty_ar73 rfl rfl rfl ht) rfl rfl rfl ?_
    -- R22.5 106 := model.go:126 load
    refine WL.v (by exact r_load1 (v := .map (some (mb t))) ty_one72 rfl (c_mbefore (List.mem_cons_of_mem _ (List.mem_cons_of_mem _ List.mem_cons_self)) ht (by omega) st)) rfl rfl rfl ?_
    -- R22.6 107 := model.go:126 move
    refine WL.v (by first | exact r_move (v := .int _ _) rfl | exact r_move rfl) rfl rfl rfl ?_
    -- R22.7 108 := model.go:126 lookup
    refine WL.v (by exact r_lookok (key := .int .i64 (c : Nat)) (v := .int .u64 (x : Nat)) (t := true) ty_kb74 ty_mp72 ty_z126 rfl rfl st (List.mem_cons_of_mem _ List.mem_cons_self) (goodCell (by omega)) (by show (odV F (c : Nat)).getD _ = _; unfold odV; rw [if_pos (by omega), Int.toNat_natCast, hod]; rfl) (by show (odV F (c : Nat)).isSome = _; unfold odV; rw [if_pos (by omega), Int.toNat_natCast, hod]; rfl)) rfl rfl rfl ?_
    -- R22.8 100 := model.go:126 move
    refine WL.v (by first | exact r_move (v := .tuple _) rfl | exact r_move rfl) rfl rfl rfl ?_
    -- R22.9 109 := model.go:126 extract
    refine WL.v (by first | exact r_extract (v := .int _ _) rfl rfl | exact r_extract rfl rfl) rfl rfl rfl ?_
    -- R22.10 110 := model.go:126 extract
    refine WL.v (by first | exact r_extract (v := .bool _) rfl rfl | exact r_extract rfl rfl) rfl rfl rfl ?_
    -- R22.11 8 := model.go:126 assign
    refine WL.v (by first | exact r_assign (v := .int _ _) rfl | exact r_assign rfl) rfl rfl rfl ?_
    -- R22.12 9 := model.go:126 assign
    refine WL.v (by first | exact r_assign (v := .bool _) rfl | exact r_assign rfl) rfl rfl rfl ?_
    refine WL.fin hK3796 (fun _ _ h => h) ?_
    refine WC.seq fun K3797 hK3797 => ?_
    -- region 23
    refine WC.region ?_
    -- R23.0 111 := model.go:126 move
    refine WL.v (by first | exact r_move (v := .bool _) rfl | exact r_move rfl) rfl rfl rfl ?_
    -- R23.1 112 := model.go:126 unOp
    refine WL.v (by first | exact r_notT rfl | exact r_notF rfl | exact r_not rfl) rfl rfl rfl ?_
    refine WL.fin hK3797 (fun _ _ h => h) ?_
    refine WC.condF rfl rfl ?_
    refine WC.skipF hK3795 (fun _ _ h => h) ?_
    refine WC.seq fun K3798 hK3798 => ?_
    -- region 25 (draws)
    refine WC.tailS 7 st ty_mixed (by kernel_rfl) fun w st Kq hKq => ?_
    -- R25.0 126 := model.go:129 move
    refine SL.v (by first | exact r_move (v := .pointer _) rfl | exact r_move rfl) rfl rfl rfl ?_
    -- R25.1 127 := model.go:129 move
    refine SL.v (by first | exact r_move (v := .int _ _) rfl | exact r_move rfl) rfl rfl rfl ?_
    -- R25.2 128 := model.go:129 fieldAddr
    refine SL.v (by exact r_field ty_fld28_4 rfl) rfl rfl rfl ?_
    -- R25.3 129 := model.go:129 load
    refine SL.v (by exact r_load1 (v := .int .u64 (o.X : Nat)) ty_one26 rfl (st.c0 (by decide))) rfl rfl rfl ?_
    -- R25.4 130 := model.go:129 nilCheck
    refine SL.v (by exact r_nilCheck rfl) rfl rfl rfl ?_
    -- R25.5 131 := model.go:129 fieldAddr
    refine SL.v (by exact r_field ty_fld98_10 rfl) rfl rfl rfl ?_
    -- R25.6 132 := model.go:129 indexAddr
    refine SL.v (by exact r_indexA (j := c) ty_ar48 rfl rfl rfl hc12) rfl rfl rfl ?_
    refine SL.fin hKq ?_
    -- R25.7 None := model.go:129 store
    refine WL.store (v := .int .u64 (o.X : Nat)) st.front2 ty_one26 rfl rfl rfl (by omega) rfl rfl ?_
    intro w st
    have st : S0 w0 (moI bm { mrOf s with cells := updN s.cells c o.X } pv tv mb :: (b5, Row 28 5 (nth (opL o))) :: mpE (mb t) F :: (XP ++ (XO ++ (R ++ l)))) w := stE (mw_cells hc12) st
    refine WL.fin hK3798 (fun _ _ h => h) ?_
    refine WC.seq fun K3799 hK3799 => ?_
    -- region 26 (draws)
    refine WC.tailS 10 st ty_mixed (by kernel_rfl) fun w st Kq hKq => ?_
    -- R26.0 133 := model.go:130 move
    refine SL.v (by first | exact r_move (v := .pointer _) rfl | exact r_move rfl) rfl rfl rfl ?_
    -- R26.1 134 := model.go:130 move
    refine SL.v (by first | exact r_move (v := .int _ _) rfl | exact r_move rfl) rfl rfl rfl ?_
    -- R26.2 135 := model.go:130 nilCheck
    refine SL.v (by exact r_nilCheck rfl) rfl rfl rfl ?_
    -- R26.3 136 := model.go:130 fieldAddr
    refine SL.v (by exact r_field ty_fld98_12 rfl) rfl rfl rfl ?_
    -- R26.4 137 := model.go:130 indexAddr
    refine SL.v (by exact r_indexA (j := t) ty_ar76 rfl rfl rfl ht) rfl rfl rfl ?_
    -- R26.5 138 := model.go:130 load
    refine SL.v (by exact r_load1 (v := .int .i64 ((s.tk t).n : Nat)) ty_one3 rfl (c_mwr (m := { mrOf s with cells := updN s.cells c o.X }) List.mem_cons_self ht (by omega) st)) rfl rfl rfl ?_
    -- R26.6 139 := model.go:130 binOp
    refine SL.v (by exact r_add (r := (((s.tk t).n + 1 : Nat) : Int)) rfl rfl ((wi64 (by omega) (by omega)).trans (by omega))) rfl rfl rfl ?_
    -- R26.7 140 := model.go:130 nilCheck
    refine SL.v (by exact r_nilCheck rfl) rfl rfl rfl ?_
    -- R26.8 141 := model.go:130 fieldAddr
    refine SL.v (by exact r_field ty_fld98_12 rfl) rfl rfl rfl ?_
    -- R26.9 142 := model.go:130 indexAddr
    refine SL.v (by exact r_indexA (j := t) ty_ar76 rfl rfl rfl ht) rfl rfl rfl ?_
    refine SL.fin hKq ?_
    -- R26.10 None := model.go:130 store
    refine WL.store (v := .int .i64 (((s.tk t).n + 1 : Nat) : Int)) st ty_one3 rfl rfl rfl (by omega) rfl rfl ?_
    intro w st
    have st : S0 w0 (moI bm { mrOf s with cells := updN s.cells c o.X, wr := updN (mrOf s).wr t ((s.tk t).n + 1) } pv tv mb :: (b5, Row 28 5 (nth (opL o))) :: mpE (mb t) F :: (XP ++ (XO ++ (R ++ l)))) w := stE (mw_wr ht) st
    have mh : MK w0 bm mb { s with tk := updN s.tk t (pushP (s.tk t) c (s.cells c)), cells := updN s.cells c o.X } P l w := by unfold MK; rw [mr_write, od_write, ← hF]; exact ⟨pv, XP, tv, XO, hp, ho, ((st.perm (by classical exact List.perm_iff_count.2 fun x => by simp only [List.count_append, List.count_cons, List.count_nil, List.append_eq, List.cons_append, List.nil_append, List.append_assoc, Nat.add_zero, Nat.zero_add] <;> ac_rfl) : S0 w0 ((b5, Row 28 5 (nth (opL o))) :: (moI bm { mrOf s with cells := updN s.cells c o.X, wr := updN (mrOf s).wr t ((s.tk t).n + 1) } pv tv mb :: (XP ++ (XO ++ ((mpE (mb t) F :: R) ++ l))))) w).drop.perm (((((hR2 F).symm.append_right l).append_left XO).append_left XP).cons _))⟩
    refine WL.fin hK3799 (fun _ _ h => h) ?_
    refine WC.seq fun K3800 hK3800 => ?_
    -- region 27
    refine WC.region ?_
    -- R27.0 6 := model.go:131 assign
    refine WL.v (by first | exact r_assign (v := .int _ _) rfl | exact r_assign rfl) rfl rfl rfl ?_
    refine WL.fin hK3800 (fun _ _ h => h) ?_
    refine WC.ret1 Tryz.results99 (fun _ _ h => h) rfl ?_
    exact ⟨_, rfl, by rw [eS]; rfl, P, by rw [eS]; exact hrelS, by rw [eS]; exact mh⟩
end Go.Proofs.Qxb6500834aGreatDoor

