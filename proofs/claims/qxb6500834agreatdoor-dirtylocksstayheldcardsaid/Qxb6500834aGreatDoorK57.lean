import Derived.Test.Qxb6500834aGreatDoorK56
set_option linter.unusedVariables false
set_option linter.unusedSimpArgs false
set_option maxRecDepth 20000
namespace Go.Proofs.Qxb6500834aGreatDoor
open Go.RowKit Go.E1 Go.Kern
theorem ty_agg87 : aggT Tryz.prog 87 = some 12 := by kernel_rfl
theorem ty_ar87 : arT Tryz.prog 87 = some (12, 4, 1) := by kernel_rfl
theorem ty_ar88 : arT Tryz.prog 88 = some (16, 87, 12) := by kernel_rfl
theorem ty_call64 : callT Tryz.prog 64 = true := by kernel_rfl
theorem ty_pl87 : plT Tryz.prog 87 = some [(0, 1), (1, 1), (2, 1), (3, 1), (4, 1), (5, 1), (6, 1), (7, 1), (8, 1), (9, 1), (10, 1), (11, 1)] := by kernel_rfl
theorem ty_zeroN87 : zeroL Tryz.prog 87 = some ((List.range 12).map fun _ => .bool false) := by kernel_rfl
theorem ty_zeroN88 : zeroL Tryz.prog 88 = some ((List.range 192).map fun _ => .bool false) := by kernel_rfl
variable {w0 : World} {l X : List HI} {w : World} {s s' s0 : KS} {t r N n : Nat} {qv qv' : Nat → Value}

/-! Law: dirty locks stay held. -/
def dF (D : Nat → Nat → Bool) (i : Nat) : Value := .bool (D (i / 12) (i % 12))
theorem dF_set {D : Nat → Nat → Bool} {t c : Nat} {b : Bool} (ht : t < 16) (hc : c < 12) : ∀ k, k < 192 → upd (dF D) (0 + t * 12 + c * 1) (.bool b) k = dF (upd2 D t c b) k := fun k hk => by
  rw [upd_eq]
  unfold dF upd2
  by_cases h : k = 0 + t * 12 + c * 1
  · rw [if_pos h, if_pos ⟨by omega, by omega⟩]
  · rw [if_neg h, if_neg (fun e => h (by omega))]
def zapD (D : Nat → Nat → Bool) (t : Nat) : Nat → Nat → Bool := fun a b => if a = t then false else D a b
theorem dF_zap {D : Nat → Nat → Bool} {t : Nat} (ht : t < 16) : ∀ k, k < 192 → upds (dF D) (0 + t * 12) 12 (fun _ => .bool false) k = dF (zapD D t) k := fun k hk => by
  rw [upds_eq]
  unfold dF zapD
  by_cases h : 0 + t * 12 ≤ k ∧ k < 0 + t * 12 + 12
  · rw [if_pos h, if_pos (by omega)]
  · rw [if_neg h, if_neg (by omega)]
theorem c_dF {D : Nat → Nat → Bool} {b t c a : Nat} (hm : (b, Row 88 192 (dF D)) ∈ l) (ht : t < 16) (hc : c < 12) (ha : a = t * 12 + c) (st : S0 w0 l w) : w.cell? ⟨b, a, none⟩ = some (.bool (D t c)) := by
  rw [st.cell hm (by omega), ha]
  unfold dF
  rw [show (t * 12 + c) / 12 = t by omega, show (t * 12 + c) % 12 = c by omega]
theorem foldl_zapD : ∀ (Ts : List Nat) {D : Nat → Nat → Bool} {t c : Nat}, (Ts.foldl zapD D) t c = if t ∈ Ts then false else D t c
  | [], D, t, c => by simp
  | v :: Ts, D, t, c => by
    rw [List.foldl_cons, foldl_zapD Ts]
    by_cases h : t ∈ Ts
    · simp [h]
    · by_cases e : t = v
      · subst e; simp [h, zapD]
      · simp [h, e, zapD]
/-- What a release's answer hangs on. -/
theorem rel_code {o : Kern.Op} (hd : DL s) (h6 : o.kind = 6) (hf : cfB s o = true) (hb : 8 ≤ o.B ∧ o.B < 20) (ht : tcF s o.A.toNat (o.B.toNat - 8) = true) : (stepP s o).2.1 = 17 ∧ (stepP s o).1 = s := by
  have hc := (cfB_iff (by omega) (by omega)).1 hf
  have hA := callerP_ok hc
  have eA : nameP o.A 16 = o.A := (nameP_in hA.1).symm
  have eB : nameP o.B 20 = o.B := nameP_eq (by omega)
  have e : stepP s o = ((releaseP s o.A o.B).1, (releaseP s o.A o.B).2, -1) := by unfold stepP; rw [h6, eA, eB]; rfl
  rw [eA] at hc
  have hh := hd _ _ ht
  rw [show 8 + (o.B.toNat - 8) = o.B.toNat by omega] at hh
  rw [e]
  unfold releaseP
  rw [if_neg (fun k => k hc), if_neg (by omega), if_neg (by omega), if_pos ⟨by omega, ht⟩]
  exact ⟨rfl, rfl⟩
theorem code17 {o : Kern.Op} (h : (stepP s o).2.1 = 17) : o.kind = 6 ∧ cfB s o = true ∧ (8 ≤ o.B ∧ o.B < 20) ∧ tcF s o.A.toNat (o.B.toNat - 8) = true := by
  have h6 : o.kind = 6 := Classical.byContradiction fun k => codes_of.2.2.1 k h
  have e : stepP s o = ((releaseP s (nameP o.A 16) (nameP o.B 20)).1, (releaseP s (nameP o.A 16) (nameP o.B 20)).2, -1) := by unfold stepP; rw [h6]; rfl
  rw [e] at h
  have h : (releaseP s (nameP o.A 16) (nameP o.B 20)).2 = 17 := h
  have hcc := callerP_codes (s := s) (t := nameP o.A 16)
  unfold releaseP at h
  split at h
  · dsimp only at h; omega
  rename_i hc
  have hc := Classical.not_not.1 hc
  split at h
  · cases h
  rename_i hb
  split at h
  · cases h
  split at h
  · rename_i hn
    have eA := nameP_in (callerP_ok hc).1
    have eB := nameP_in (v := o.B) (m := 20) (by omega)
    rw [← eA, ← eB] at hn
    exact ⟨h6, (cfB_iff (by omega) (by omega)).2 hc, by omega, hn.2⟩
  · cases h
set_option maxHeartbeats 4000000 in
theorem dirty1_ok {o : Kern.Op} {bB bA : Nat} {code task : Int} {ov : Value} {ans : List (Nat × Nat × Nat)} {b0 : Nat}  (hD : gD w0) (h16 : ∀ a, a ∈ ans → a.1 < 16) (hBr : -9223372036854775808 ≤ o.B ∧ o.B ≤ 9223372036854775807) (hr : o.kind = 6 → cfB s o = true → 8 ≤ o.B ∧ o.B < 20 → tcF s o.A.toNat (o.B.toNat - 8) = true → code = 17 ∧ s' = s) (h17 : code = 17 → o.kind = 6 ∧ cfB s o = true ∧ (8 ≤ o.B ∧ o.B < 20) ∧ tcF s o.A.toNat (o.B.toNat - 8) = true) (hw0 : code = 0 → o.kind = 7 → cfB s o = true ∧ (0 ≤ o.B ∧ o.B < 12)) (h89 : code = 0 → o.kind = 8 ∨ o.kind = 9 → cfB s o = true) (hn : ∀ t c, tcF s' t c = if (toldP ans 3).testBit t then false else drM s o code t c) (hL : ∀ t c, tcF s' t c = true → s'.held t (8 + c) = 16) (hck : CK s s' ans bB bA qv qv' ov l) (st : S0 w0 ((b0, Row 88 192 (dF (tcF s))) :: l) w) :
    Calls Tryz.prog 64 #[.agg (stepL o bB bA code task ov).toArray, .pointer (some ⟨b0, 0, none⟩)] w (Ret fun v w' => v = .bool true ∧ S0 w0 ((b0, Row 88 192 (dF (tcF s'))) :: l) w') := by
  obtain ⟨XO, ho, hXO⟩ := hck.a
  obtain ⟨a, c, b, rfl, hc1, hc2, ha, hcell⟩ := ho.form
  obtain ⟨fs, hfs⟩ : ∃ fs : Nat → Value, fs = nth (stepL o bB bA code task (.slice a ans.length c)) := ⟨_, rfl⟩
  have f0 : fs 0 = .int .u8 (o.kind : Nat) := by rw [hfs]; rfl
  have f1 : fs 1 = .int .i64 o.A := by rw [hfs]; rfl
  have f2 : fs 2 = .int .i64 o.B := by rw [hfs]; rfl
  have f3 : fs 3 = .int .i64 o.C := by rw [hfs]; rfl
  have f4 : fs 4 = .int .u64 (o.X : Nat) := by rw [hfs]; rfl
  have f5 : fs 5 = .pointer (some ⟨bB, 0, none⟩) := by rw [hfs]; rfl
  have f6 : fs 6 = .pointer (some ⟨bA, 0, none⟩) := by rw [hfs]; rfl
  have f7 : fs 7 = .int .i64 code := by rw [hfs]; rfl
  have f8 : fs 8 = .int .i64 task := by rw [hfs]; rfl
  have f9 : fs 9 = .slice a ans.length c := by rw [hfs]; rfl
  refine enter [.agg (stepL o bB bA code task (.slice a ans.length c)).toArray, .pointer (some ⟨b0, 0, none⟩)] Tryz.func64 rfl Tryz.ntmps64 rfl ?_
  show WC _ _ _ 114 [] [(0, .agg (stepL o bB bA code task (.slice a ans.length c)).toArray), (1, .pointer (some ⟨b0, 0, none⟩))] _
  refine WC.seq fun K1990 hK1990 => ?_
  -- region 0
  refine WC.region ?_
  -- R0.0 2 := more.go:15 box
  refine WL.box (m := 10) (vs := stepL o bB bA code task (.slice a ans.length c)) st rfl rfl rfl rfl rfl rfl ?_
  intro b2 w st
  have st : S0 w0 ((b0, Row 88 192 (dF (tcF s))) :: (b2, Row 36 10 fs) :: l) w := by rw [hfs]; exact st.front1
  -- R0.1 3 := more.go:15 assign
  refine WL.v (by first | exact r_assign (v := .bool _) rfl | exact r_assign rfl) rfl rfl rfl ?_
  refine WL.fin hK1990 (fun _ _ h => h) ?_
  refine WC.seq fun K1991 hK1991 => ?_
  -- region 1
  refine WC.region ?_
  -- R1.0 12 := more.go:16 load
  refine WL.v (by exact r_loadL (vs := stepL o bB bA code task (.slice a ans.length c)) ty_agg36 rfl ⟨(st.c1 (by decide)).trans (congrArg some f0), (st.c1 (by decide)).trans (congrArg some f1), (st.c1 (by decide)).trans (congrArg some f2), (st.c1 (by decide)).trans (congrArg some f3), (st.c1 (by decide)).trans (congrArg some f4), (st.c1 (by decide)).trans (congrArg some f5), (st.c1 (by decide)).trans (congrArg some f6), (st.c1 (by decide)).trans (congrArg some f7), (st.c1 (by decide)).trans (congrArg some f8), (st.c1 (by decide)).trans (congrArg some f9), trivial⟩) rfl rfl rfl ?_
  -- R1.1 13 := more.go:16 call
  refine WL.call (r_call ty_call33 rfl) rfl rfl rfl (callerL_ok (o := o) (List.mem_cons_of_mem _ (List.mem_cons_of_mem _ hck.B)) rfl st) ?_
  rintro _ w ⟨rfl, st⟩
  -- R1.2 11 := more.go:16 move
  refine WL.v (by first | exact r_move (v := .tuple _) rfl | exact r_move rfl) rfl rfl rfl ?_
  -- R1.3 14 := more.go:16 extract
  refine WL.v (by first | exact r_extract (v := .int _ _) rfl rfl | exact r_extract rfl rfl) rfl rfl rfl ?_
  -- R1.4 15 := more.go:16 extract
  refine WL.v (by first | exact r_extract (v := .bool _) rfl rfl | exact r_extract rfl rfl) rfl rfl rfl ?_
  -- R1.5 4 := more.go:16 assign
  refine WL.v (by first | exact r_assign (v := .int _ _) rfl | exact r_assign rfl) rfl rfl rfl ?_
  -- R1.6 5 := more.go:16 assign
  refine WL.v (by first | exact r_assign (v := .bool _) rfl | exact r_assign rfl) rfl rfl rfl ?_
  refine WL.fin hK1991 (fun _ _ h => h) ?_
  have hck2 := fun a => (hck.c (a := (b2, Row 36 10 fs))).c (a := a)
  refine WC.cut (ι := Unit) (fun _ => [(1, .pointer (some ⟨b0, 0, none⟩)), (2, .pointer (some ⟨b2, 0, none⟩)), (4, .int .i64 (cfT o))]) (fun _ w' => code ≠ 17 ∧ S0 w0 ((b0, Row 88 192 (dF (tcF s))) :: (b2, Row 36 10 fs) :: l) w') ?_ ?_
  rotate_left
  · intro KC hKC
    by_cases hk6 : o.kind = 6
    rotate_left
    · skip
      refine WC.seq fun K1992 hK1992 => ?_
      -- region 2 (draws)
      refine WC.quietS st ty_mixed (by kernel_rfl) fun Kq hKq => ?_
      -- R2.0 16 := more.go:17 fieldAddr
      refine QL.v (fun w st => by exact r_field ty_fld36_0 rfl) rfl rfl rfl ?_
      -- R2.1 17 := more.go:17 fieldAddr
      refine QL.v (fun w st => by exact r_field ty_fld28_0 rfl) rfl rfl rfl ?_
      -- R2.2 18 := more.go:17 load
      refine QL.v (fun w st => by exact r_load1 (v := .int .u8 (o.kind : Nat)) ty_one25 rfl (by rw [← f0]; exact st.c1 (by decide))) rfl rfl rfl ?_
      -- R2.3 19 := more.go:17 binOp
      refine QL.v (fun w st => by first | exact r_eql rfl rfl (decide_eq_true (by omega)) | exact r_eql rfl rfl (decide_eq_false (by omega)) | exact r_eql rfl rfl rfl) rfl rfl rfl ?_
      -- R2.4 20 := more.go:17 move
      refine QL.v (fun w st => by first | exact r_move (v := .bool _) rfl | exact r_move rfl) rfl rfl rfl ?_
      -- R2.5 21 := more.go:17 move
      refine QL.no rfl rfl ?_
      -- R2.6 22 := more.go:17 pick
      refine QL.v (fun w st => by first | exact r_pickT (v := .bool _) rfl rfl | exact r_pickF (v := .bool _) rfl rfl) rfl rfl rfl ?_
      -- R2.7 23 := more.go:17 move
      refine QL.v (fun w st => by first | exact r_move (v := .bool _) rfl | exact r_move rfl) rfl rfl rfl ?_
      -- R2.8 24 := more.go:17 fieldAddr
      refine QL.no rfl rfl ?_
      -- R2.9 25 := more.go:17 fieldAddr
      refine QL.no rfl rfl ?_
      -- R2.10 26 := more.go:17 load
      refine QL.no rfl rfl ?_
      -- R2.11 27 := more.go:17 binOp
      refine QL.no rfl rfl ?_
      -- R2.12 28 := more.go:17 call
      refine QL.no rfl rfl ?_
      -- R2.13 29 := more.go:17 pick
      refine QL.v (fun w st => by first | exact r_pickT (v := .bool _) rfl rfl | exact r_pickF (v := .bool _) rfl rfl) rfl rfl rfl ?_
      -- R2.14 30 := more.go:17 move
      refine QL.v (fun w st => by first | exact r_move (v := .bool _) rfl | exact r_move rfl) rfl rfl rfl ?_
      -- R2.15 31 := more.go:17 move
      refine QL.no rfl rfl ?_
      -- R2.16 32 := more.go:17 fieldAddr
      refine QL.no rfl rfl ?_
      -- R2.17 33 := more.go:17 fieldAddr
      refine QL.no rfl rfl ?_
      -- R2.18 34 := more.go:17 load
      refine QL.no rfl rfl ?_
      -- R2.19 35 := more.go:17 binOp
      refine QL.no rfl rfl ?_
      -- R2.20 36 := more.go:17 indexAddr
      refine QL.no rfl rfl ?_
      -- R2.21 37 := more.go:17 indexAddr
      refine QL.no rfl rfl ?_
      -- R2.22 38 := more.go:17 load
      refine QL.no rfl rfl ?_
      -- R2.23 39 := more.go:17 pick
      refine QL.v (fun w st => by first | exact r_pickT (v := .bool _) rfl rfl | exact r_pickF (v := .bool _) rfl rfl) rfl rfl rfl ?_
      refine QL.wl hKq fun w st => ?_
      refine WL.fin hK1992 (fun _ _ h => h) ?_
      refine WC.condF rfl rfl ?_
      refine WC.skipJ hKC (fun _ _ h => h) () ⟨fun k => hk6 (h17 k).1, st⟩ (by repeat (first | exact sub_nil _ | refine sub_cons rfl rfl ?_))
    rcases hF : cfB s o with _ | _
    · skip
      refine WC.seq fun K1993 hK1993 => ?_
      -- region 2 (draws)
      refine WC.quietS st ty_mixed (by kernel_rfl) fun Kq hKq => ?_
      -- R2.0 16 := more.go:17 fieldAddr
      refine QL.v (fun w st => by exact r_field ty_fld36_0 rfl) rfl rfl rfl ?_
      -- R2.1 17 := more.go:17 fieldAddr
      refine QL.v (fun w st => by exact r_field ty_fld28_0 rfl) rfl rfl rfl ?_
      -- R2.2 18 := more.go:17 load
      refine QL.v (fun w st => by exact r_load1 (v := .int .u8 (o.kind : Nat)) ty_one25 rfl (by rw [← f0]; exact st.c1 (by decide))) rfl rfl rfl ?_
      -- R2.3 19 := more.go:17 binOp
      refine QL.v (fun w st => by first | exact r_eql rfl rfl (decide_eq_true (by omega)) | exact r_eql rfl rfl (decide_eq_false (by omega)) | exact r_eql rfl rfl rfl) rfl rfl rfl ?_
      -- R2.4 20 := more.go:17 move
      refine QL.v (fun w st => by first | exact r_move (v := .bool _) rfl | exact r_move rfl) rfl rfl rfl ?_
      -- R2.5 21 := more.go:17 move
      refine QL.v (fun w st => by exact r_move (v := .bool false) rfl) rfl rfl rfl ?_
      -- R2.6 22 := more.go:17 pick
      refine QL.v (fun w st => by first | exact r_pickT (v := .bool _) rfl rfl | exact r_pickF (v := .bool _) rfl rfl) rfl rfl rfl ?_
      -- R2.7 23 := more.go:17 move
      refine QL.v (fun w st => by first | exact r_move (v := .bool _) rfl | exact r_move rfl) rfl rfl rfl ?_
      -- R2.8 24 := more.go:17 fieldAddr
      refine QL.no rfl rfl ?_
      -- R2.9 25 := more.go:17 fieldAddr
      refine QL.no rfl rfl ?_
      -- R2.10 26 := more.go:17 load
      refine QL.no rfl rfl ?_
      -- R2.11 27 := more.go:17 binOp
      refine QL.no rfl rfl ?_
      -- R2.12 28 := more.go:17 call
      refine QL.no rfl rfl ?_
      -- R2.13 29 := more.go:17 pick
      refine QL.v (fun w st => by first | exact r_pickT (v := .bool _) rfl rfl | exact r_pickF (v := .bool _) rfl rfl) rfl rfl rfl ?_
      -- R2.14 30 := more.go:17 move
      refine QL.v (fun w st => by first | exact r_move (v := .bool _) rfl | exact r_move rfl) rfl rfl rfl ?_
      -- R2.15 31 := more.go:17 move
      refine QL.no rfl rfl ?_
      -- R2.16 32 := more.go:17 fieldAddr
      refine QL.no rfl rfl ?_
      -- R2.17 33 := more.go:17 fieldAddr
      refine QL.no rfl rfl ?_
      -- R2.18 34 := more.go:17 load
      refine QL.no rfl rfl ?_
      -- R2.19 35 := more.go:17 binOp
      refine QL.no rfl rfl ?_
      -- R2.20 36 := more.go:17 indexAddr
      refine QL.no rfl rfl ?_
      -- R2.21 37 := more.go:17 indexAddr
      refine QL.no rfl rfl ?_
      -- R2.22 38 := more.go:17 load
      refine QL.no rfl rfl ?_
      -- R2.23 39 := more.go:17 pick
      refine QL.v (fun w st => by first | exact r_pickT (v := .bool _) rfl rfl | exact r_pickF (v := .bool _) rfl rfl) rfl rfl rfl ?_
      refine QL.wl hKq fun w st => ?_
      refine WL.fin hK1993 (fun _ _ h => h) ?_
      refine WC.condF rfl rfl ?_
      refine WC.skipJ hKC (fun _ _ h => h) () ⟨(fun k => by have := (h17 k).2.1; rw [hF] at this; cases this), st⟩ (by repeat (first | exact sub_nil _ | refine sub_cons rfl rfl ?_))
    obtain ⟨t, ht16, hAt, hT, hl, hwt⟩ := cf_T hF
    have hA' : o.A.toNat = t := by rw [hAt]; rfl
    rw [hA'] at hr h17
    by_cases hb : 8 ≤ o.B ∧ o.B < 20
    rotate_left
    · obtain ⟨d, hd⟩ : ∃ d, d = IntKind.i64.wrap (o.B - 8) := ⟨_, rfl⟩
      have hd2 : ¬ (0 ≤ d ∧ d < 12) := by
        by_cases h8 : -9223372036854775800 ≤ o.B
        · have : d = o.B - 8 := hd.trans (wi64 (by omega) (by omega))
          omega
        · have : d = o.B - 8 + 18446744073709551616 := by rw [hd]; unfold IntKind.wrap; simp only [IntKind.bits, IntKind.signed, Bool.true_and]; split <;> rename_i h <;> simp at h <;> omega
          omega

      refine WC.seq fun K1994 hK1994 => ?_
      -- region 2 (draws)
      refine WC.quietS st ty_mixed (by kernel_rfl) fun Kq hKq => ?_
      -- R2.0 16 := more.go:17 fieldAddr
      refine QL.v (fun w st => by exact r_field ty_fld36_0 rfl) rfl rfl rfl ?_
      -- R2.1 17 := more.go:17 fieldAddr
      refine QL.v (fun w st => by exact r_field ty_fld28_0 rfl) rfl rfl rfl ?_
      -- R2.2 18 := more.go:17 load
      refine QL.v (fun w st => by exact r_load1 (v := .int .u8 (o.kind : Nat)) ty_one25 rfl (by rw [← f0]; exact st.c1 (by decide))) rfl rfl rfl ?_
      -- R2.3 19 := more.go:17 binOp
      refine QL.v (fun w st => by first | exact r_eql rfl rfl (decide_eq_true (by omega)) | exact r_eql rfl rfl (decide_eq_false (by omega)) | exact r_eql rfl rfl rfl) rfl rfl rfl ?_
      -- R2.4 20 := more.go:17 move
      refine QL.v (fun w st => by first | exact r_move (v := .bool _) rfl | exact r_move rfl) rfl rfl rfl ?_
      -- R2.5 21 := more.go:17 move
      refine QL.v (fun w st => by exact r_move (v := .bool true) rfl) rfl rfl rfl ?_
      -- R2.6 22 := more.go:17 pick
      refine QL.v (fun w st => by first | exact r_pickT (v := .bool _) rfl rfl | exact r_pickF (v := .bool _) rfl rfl) rfl rfl rfl ?_
      -- R2.7 23 := more.go:17 move
      refine QL.v (fun w st => by first | exact r_move (v := .bool _) rfl | exact r_move rfl) rfl rfl rfl ?_
      -- R2.8 24 := more.go:17 fieldAddr
      refine QL.v (fun w st => by exact r_field ty_fld36_0 rfl) rfl rfl rfl ?_
      -- R2.9 25 := more.go:17 fieldAddr
      refine QL.v (fun w st => by exact r_field ty_fld28_2 rfl) rfl rfl rfl ?_
      -- R2.10 26 := more.go:17 load
      refine QL.v (fun w st => by exact r_load1 (v := .int .i64 o.B) ty_one2 rfl (by rw [← f2]; exact st.c1 (by decide))) rfl rfl rfl ?_
      -- R2.11 27 := more.go:17 binOp
      refine QL.v (fun w st => by exact r_sub (r := d) rfl rfl hd.symm) rfl rfl rfl ?_
      -- R2.12 28 := more.go:17 call
      refine QL.call (val := .bool false) (fun w st => r_call ty_call34 rfl) rfl rfl rfl (fun w st => (within_ok (n := 12) st).mono (by rintro _ _ ⟨v, rfl, rfl, st⟩; exact ⟨_, rfl, by unfold wiP; rw [decide_eq_false hd2], st⟩)) ?_
      -- R2.13 29 := more.go:17 pick
      refine QL.v (fun w st => by first | exact r_pickT (v := .bool _) rfl rfl | exact r_pickF (v := .bool _) rfl rfl) rfl rfl rfl ?_
      -- R2.14 30 := more.go:17 move
      refine QL.v (fun w st => by first | exact r_move (v := .bool _) rfl | exact r_move rfl) rfl rfl rfl ?_
      -- R2.15 31 := more.go:17 move
      refine QL.no rfl rfl ?_
      -- R2.16 32 := more.go:17 fieldAddr
      refine QL.no rfl rfl ?_
      -- R2.17 33 := more.go:17 fieldAddr
      refine QL.no rfl rfl ?_
      -- R2.18 34 := more.go:17 load
      refine QL.no rfl rfl ?_
      -- R2.19 35 := more.go:17 binOp
      refine QL.no rfl rfl ?_
      -- R2.20 36 := more.go:17 indexAddr
      refine QL.no rfl rfl ?_
      -- R2.21 37 := more.go:17 indexAddr
      refine QL.no rfl rfl ?_
      -- R2.22 38 := more.go:17 load
      refine QL.no rfl rfl ?_
      -- R2.23 39 := more.go:17 pick
      refine QL.v (fun w st => by first | exact r_pickT (v := .bool _) rfl rfl | exact r_pickF (v := .bool _) rfl rfl) rfl rfl rfl ?_
      refine QL.wl hKq fun w st => ?_
      refine WL.fin hK1994 (fun _ _ h => h) ?_
      refine WC.condF rfl rfl ?_
      refine WC.skipJ hKC (fun _ _ h => h) () ⟨fun k => hb (h17 k).2.2.1, st⟩ (by repeat (first | exact sub_nil _ | refine sub_cons rfl rfl ?_))
    obtain ⟨c', hc'⟩ : ∃ c : Nat, o.B = ((8 + c : Nat) : Int) := ⟨o.B.toNat - 8, by omega⟩
    have hB' : o.B.toNat - 8 = c' := by omega
    have hc12 : c' < 12 := by omega
    rw [hB'] at hr h17

    rcases htc : tcF s t c' with _ | _
    · skip
      refine WC.seq fun K1995 hK1995 => ?_
      -- region 2 (draws)
      refine WC.quietS st ty_mixed (by kernel_rfl) fun Kq hKq => ?_
      -- R2.0 16 := more.go:17 fieldAddr
      refine QL.v (fun w st => by exact r_field ty_fld36_0 rfl) rfl rfl rfl ?_
      -- R2.1 17 := more.go:17 fieldAddr
      refine QL.v (fun w st => by exact r_field ty_fld28_0 rfl) rfl rfl rfl ?_
      -- R2.2 18 := more.go:17 load
      refine QL.v (fun w st => by exact r_load1 (v := .int .u8 (o.kind : Nat)) ty_one25 rfl (by rw [← f0]; exact st.c1 (by decide))) rfl rfl rfl ?_
      -- R2.3 19 := more.go:17 binOp
      refine QL.v (fun w st => by first | exact r_eql rfl rfl (decide_eq_true (by omega)) | exact r_eql rfl rfl (decide_eq_false (by omega)) | exact r_eql rfl rfl rfl) rfl rfl rfl ?_
      -- R2.4 20 := more.go:17 move
      refine QL.v (fun w st => by first | exact r_move (v := .bool _) rfl | exact r_move rfl) rfl rfl rfl ?_
      -- R2.5 21 := more.go:17 move
      refine QL.v (fun w st => by exact r_move (v := .bool true) rfl) rfl rfl rfl ?_
      -- R2.6 22 := more.go:17 pick
      refine QL.v (fun w st => by first | exact r_pickT (v := .bool _) rfl rfl | exact r_pickF (v := .bool _) rfl rfl) rfl rfl rfl ?_
      -- R2.7 23 := more.go:17 move
      refine QL.v (fun w st => by first | exact r_move (v := .bool _) rfl | exact r_move rfl) rfl rfl rfl ?_
      -- R2.8 24 := more.go:17 fieldAddr
      refine QL.v (fun w st => by exact r_field ty_fld36_0 rfl) rfl rfl rfl ?_
      -- R2.9 25 := more.go:17 fieldAddr
      refine QL.v (fun w st => by exact r_field ty_fld28_2 rfl) rfl rfl rfl ?_
      -- R2.10 26 := more.go:17 load
      refine QL.v (fun w st => by exact r_load1 (v := .int .i64 o.B) ty_one2 rfl (by rw [← f2]; exact st.c1 (by decide))) rfl rfl rfl ?_
      -- R2.11 27 := more.go:17 binOp
      refine QL.v (fun w st => by exact r_sub (r := (c' : Nat)) rfl rfl ((wi64 (by omega) (by omega)).trans (by omega))) rfl rfl rfl ?_
      -- R2.12 28 := more.go:17 call
      refine QL.call (val := .bool true) (fun w st => r_call ty_call34 rfl) rfl rfl rfl (fun w st => (within_ok (n := 12) st).mono (by rintro _ _ ⟨v, rfl, rfl, st⟩; exact ⟨_, rfl, by unfold wiP; rw [decide_eq_true (by omega)], st⟩)) ?_
      -- R2.13 29 := more.go:17 pick
      refine QL.v (fun w st => by first | exact r_pickT (v := .bool _) rfl rfl | exact r_pickF (v := .bool _) rfl rfl) rfl rfl rfl ?_
      -- R2.14 30 := more.go:17 move
      refine QL.v (fun w st => by first | exact r_move (v := .bool _) rfl | exact r_move rfl) rfl rfl rfl ?_
      -- R2.15 31 := more.go:17 move
      refine QL.v (fun w st => by exact r_move (v := .int .i64 (t : Nat)) (congrArg (Value.int .i64) hT)) rfl rfl rfl ?_
      -- R2.16 32 := more.go:17 fieldAddr
      refine QL.v (fun w st => by exact r_field ty_fld36_0 rfl) rfl rfl rfl ?_
      -- R2.17 33 := more.go:17 fieldAddr
      refine QL.v (fun w st => by exact r_field ty_fld28_2 rfl) rfl rfl rfl ?_
      -- R2.18 34 := more.go:17 load
      refine QL.v (fun w st => by exact r_load1 (v := .int .i64 o.B) ty_one2 rfl (by rw [← f2]; exact st.c1 (by decide))) rfl rfl rfl ?_
      -- R2.19 35 := more.go:17 binOp
      refine QL.v (fun w st => by exact r_sub (r := (c' : Nat)) rfl rfl ((wi64 (by omega) (by omega)).trans (by omega))) rfl rfl rfl ?_
      -- R2.20 36 := more.go:17 indexAddr
      refine QL.v (fun w st => by exact r_indexA (j := t) ty_ar88 rfl rfl rfl ht16) rfl rfl rfl ?_
      -- R2.21 37 := more.go:17 indexAddr
      refine QL.v (fun w st => by exact r_indexA (j := c') ty_ar87 rfl rfl rfl hc12) rfl rfl rfl ?_
      -- R2.22 38 := more.go:17 load
      refine QL.v (fun w st => by exact r_load1 (v := .bool false) ty_one4 rfl (by rw [← htc]; exact c_dF (D := tcF s) List.mem_cons_self ht16 hc12 (by omega) st)) rfl rfl rfl ?_
      -- R2.23 39 := more.go:17 pick
      refine QL.v (fun w st => by first | exact r_pickT (v := .bool _) rfl rfl | exact r_pickF (v := .bool _) rfl rfl) rfl rfl rfl ?_
      refine QL.wl hKq fun w st => ?_
      refine WL.fin hK1995 (fun _ _ h => h) ?_
      refine WC.condF rfl rfl ?_
      refine WC.skipJ hKC (fun _ _ h => h) () ⟨(fun k => by have := (h17 k).2.2.2; rw [htc] at this; cases this), st⟩ (by repeat (first | exact sub_nil _ | refine sub_cons rfl rfl ?_))
    obtain ⟨hc17, hss⟩ := hr hk6 hF hb htc
    have hss := hss.symm
    subst hss
    refine WC.seq fun K1996 hK1996 => ?_
    -- region 2 (draws)
    refine WC.quietS st ty_mixed (by kernel_rfl) fun Kq hKq => ?_
    -- R2.0 16 := more.go:17 fieldAddr
    refine QL.v (fun w st => by exact r_field ty_fld36_0 rfl) rfl rfl rfl ?_
    -- R2.1 17 := more.go:17 fieldAddr
    refine QL.v (fun w st => by exact r_field ty_fld28_0 rfl) rfl rfl rfl ?_
    -- R2.2 18 := more.go:17 load
    refine QL.v (fun w st => by exact r_load1 (v := .int .u8 (o.kind : Nat)) ty_one25 rfl (by rw [← f0]; exact st.c1 (by decide))) rfl rfl rfl ?_
    -- R2.3 19 := more.go:17 binOp
    refine QL.v (fun w st => by first | exact r_eql rfl rfl (decide_eq_true (by omega)) | exact r_eql rfl rfl (decide_eq_false (by omega)) | exact r_eql rfl rfl rfl) rfl rfl rfl ?_
    -- R2.4 20 := more.go:17 move
    refine QL.v (fun w st => by first | exact r_move (v := .bool _) rfl | exact r_move rfl) rfl rfl rfl ?_
    -- R2.5 21 := more.go:17 move
    refine QL.v (fun w st => by exact r_move (v := .bool true) rfl) rfl rfl rfl ?_
    -- R2.6 22 := more.go:17 pick
    refine QL.v (fun w st => by first | exact r_pickT (v := .bool _) rfl rfl | exact r_pickF (v := .bool _) rfl rfl) rfl rfl rfl ?_
    -- R2.7 23 := more.go:17 move
    refine QL.v (fun w st => by first | exact r_move (v := .bool _) rfl | exact r_move rfl) rfl rfl rfl ?_
    -- R2.8 24 := more.go:17 fieldAddr
    refine QL.v (fun w st => by exact r_field ty_fld36_0 rfl) rfl rfl rfl ?_
    -- R2.9 25 := more.go:17 fieldAddr
    refine QL.v (fun w st => by exact r_field ty_fld28_2 rfl) rfl rfl rfl ?_
    -- R2.10 26 := more.go:17 load
    refine QL.v (fun w st => by exact r_load1 (v := .int .i64 o.B) ty_one2 rfl (by rw [← f2]; exact st.c1 (by decide))) rfl rfl rfl ?_
    -- R2.11 27 := more.go:17 binOp
    refine QL.v (fun w st => by exact r_sub (r := (c' : Nat)) rfl rfl ((wi64 (by omega) (by omega)).trans (by omega))) rfl rfl rfl ?_
    -- R2.12 28 := more.go:17 call
    refine QL.call (val := .bool true) (fun w st => r_call ty_call34 rfl) rfl rfl rfl (fun w st => (within_ok (n := 12) st).mono (by rintro _ _ ⟨v, rfl, rfl, st⟩; exact ⟨_, rfl, by unfold wiP; rw [decide_eq_true (by omega)], st⟩)) ?_
    -- R2.13 29 := more.go:17 pick
    refine QL.v (fun w st => by first | exact r_pickT (v := .bool _) rfl rfl | exact r_pickF (v := .bool _) rfl rfl) rfl rfl rfl ?_
    -- R2.14 30 := more.go:17 move
    refine QL.v (fun w st => by first | exact r_move (v := .bool _) rfl | exact r_move rfl) rfl rfl rfl ?_
    -- R2.15 31 := more.go:17 move
    refine QL.v (fun w st => by exact r_move (v := .int .i64 (t : Nat)) (congrArg (Value.int .i64) hT)) rfl rfl rfl ?_
    -- R2.16 32 := more.go:17 fieldAddr
    refine QL.v (fun w st => by exact r_field ty_fld36_0 rfl) rfl rfl rfl ?_
    -- R2.17 33 := more.go:17 fieldAddr
    refine QL.v (fun w st => by exact r_field ty_fld28_2 rfl) rfl rfl rfl ?_
    -- R2.18 34 := more.go:17 load
    refine QL.v (fun w st => by exact r_load1 (v := .int .i64 o.B) ty_one2 rfl (by rw [← f2]; exact st.c1 (by decide))) rfl rfl rfl ?_
    -- R2.19 35 := more.go:17 binOp
    refine QL.v (fun w st => by exact r_sub (r := (c' : Nat)) rfl rfl ((wi64 (by omega) (by omega)).trans (by omega))) rfl rfl rfl ?_
    -- R2.20 36 := more.go:17 indexAddr
    refine QL.v (fun w st => by exact r_indexA (j := t) ty_ar88 rfl rfl rfl ht16) rfl rfl rfl ?_
    -- R2.21 37 := more.go:17 indexAddr
    refine QL.v (fun w st => by exact r_indexA (j := c') ty_ar87 rfl rfl rfl hc12) rfl rfl rfl ?_
    -- R2.22 38 := more.go:17 load
    refine QL.v (fun w st => by exact r_load1 (v := .bool true) ty_one4 rfl (by rw [← htc]; exact c_dF (D := tcF s) List.mem_cons_self ht16 hc12 (by omega) st)) rfl rfl rfl ?_
    -- R2.23 39 := more.go:17 pick
    refine QL.v (fun w st => by first | exact r_pickT (v := .bool _) rfl rfl | exact r_pickF (v := .bool _) rfl rfl) rfl rfl rfl ?_
    refine QL.wl hKq fun w st => ?_
    refine WL.fin hK1996 (fun _ _ h => h) ?_
    refine WC.condT rfl rfl ?_
    refine WC.seq fun K1997 hK1997 => ?_
    -- region 3
    refine WC.region ?_
    -- R3.0 40 := more.go:18 fieldAddr
    refine WL.v (by exact r_field ty_fld36_3 rfl) rfl rfl rfl ?_
    -- R3.1 41 := more.go:18 fieldAddr
    refine WL.v (by exact r_field ty_fld34_0 rfl) rfl rfl rfl ?_
    -- R3.2 42 := more.go:18 load
    refine WL.v (by exact r_load1 (v := .int .i64 code) ty_one30 rfl (by rw [← f7]; exact st.c1 (by decide))) rfl rfl rfl ?_
    -- R3.3 43 := more.go:18 binOp
    refine WL.v (by first | exact r_eql rfl rfl (decide_eq_true (by omega)) | exact r_eql rfl rfl (decide_eq_false (by omega)) | exact r_eql rfl rfl rfl) rfl rfl rfl ?_
    -- R3.4 44 := more.go:18 move
    refine WL.v (by first | exact r_move (v := .bool _) rfl | exact r_move rfl) rfl rfl rfl ?_
    -- R3.5 45 := more.go:18 fieldAddr
    refine WL.v (by exact r_field ty_fld36_2 rfl) rfl rfl rfl ?_
    -- R3.6 46 := more.go:18 load
    refine WL.v (by exact r_load1 (v := .pointer (some ⟨bA, 0, none⟩)) ty_one29 rfl (by rw [← f6]; exact st.c1 (by decide))) rfl rfl rfl ?_
    -- R3.7 47 := more.go:18 fieldAddr
    refine WL.v (by exact r_field ty_fld36_1 rfl) rfl rfl rfl ?_
    -- R3.8 48 := more.go:18 load
    refine WL.v (by exact r_load1 (v := .pointer (some ⟨bB, 0, none⟩)) ty_one29 rfl (by rw [← f5]; exact st.c1 (by decide))) rfl rfl rfl ?_
    -- R3.9 49 := more.go:18 call
    refine WL.call (r_call ty_call45 rfl) rfl rfl rfl (stateEq_ok (hck2 _).A (hck2 _).B (hck2 _).q' (hck2 _).q st) ?_
    rintro _ w ⟨rfl, st⟩
    -- R3.10 50 := more.go:18 pick
    refine WL.v (by first | exact r_pickT (v := .bool _) rfl rfl | exact r_pickF (v := .bool _) rfl rfl) rfl rfl rfl ?_
    -- R3.11 3 := more.go:18 assign
    refine WL.v (by first | exact r_assign (v := .bool _) rfl | exact r_assign rfl) rfl rfl rfl ?_
    refine WL.fin hK1997 (fun _ _ h => h) ?_
    refine WC.ret1 Tryz.results64 (fun _ _ h => h) rfl ?_
    exact ⟨_, rfl, rfl, st.drop1⟩
  clear st
  rintro _ w ⟨hc17, st⟩
  obtain ⟨M1, hM1⟩ : ∃ M1, M1 = drM s o code := ⟨_, rfl⟩
  rw [← hM1] at hn
  refine WC.seq fun K1998 hK1998 => ?_
  refine WC.seq fun K1999 hK1999 => ?_
  -- region 4
  refine WC.region ?_
  -- R4.0 51 := more.go:20 fieldAddr
  refine WL.v (by exact r_field ty_fld36_3 rfl) rfl rfl rfl ?_
  -- R4.1 52 := more.go:20 fieldAddr
  refine WL.v (by exact r_field ty_fld34_0 rfl) rfl rfl rfl ?_
  -- R4.2 53 := more.go:20 load
  refine WL.v (by exact r_load1 (v := .int .i64 code) ty_one30 rfl (by rw [← f7]; exact st.c1 (by decide))) rfl rfl rfl ?_
  -- R4.3 54 := more.go:20 binOp
  refine WL.v (by first | exact r_eql rfl rfl (decide_eq_true (by omega)) | exact r_eql rfl rfl (decide_eq_false (by omega)) | exact r_eql rfl rfl rfl) rfl rfl rfl ?_
  refine WL.fin hK1999 (fun _ _ h => h) ?_
  refine WC.condF rfl rfl ?_
  refine WC.skipF hK1998 (fun _ _ h => h) ?_
  refine WC.cut (ι := Unit) (fun _ => [(1, .pointer (some ⟨b0, 0, none⟩)), (2, .pointer (some ⟨b2, 0, none⟩))]) (fun _ w' => S0 w0 ((b0, Row 88 192 (dF (M1))) :: (b2, Row 36 10 fs) :: l) w') ?_ ?_
  rotate_left
  · intro KC hKC
    by_cases hc0 : code = 0
    rotate_left
    · have e : M1 = tcF s := by rw [hM1]; unfold drM; rw [if_neg (fun k => hc0 k.1), if_neg (fun k => hc0 k.1)]
      refine WC.seq fun K2000 hK2000 => ?_
      -- region 6
      refine WC.region ?_
      -- R6.0 55 := more.go:23 fieldAddr
      refine WL.v (by exact r_field ty_fld36_3 rfl) rfl rfl rfl ?_
      -- R6.1 56 := more.go:23 fieldAddr
      refine WL.v (by exact r_field ty_fld34_0 rfl) rfl rfl rfl ?_
      -- R6.2 57 := more.go:23 load
      refine WL.v (by exact r_load1 (v := .int .i64 code) ty_one30 rfl (by rw [← f7]; exact st.c1 (by decide))) rfl rfl rfl ?_
      -- R6.3 58 := more.go:23 binOp
      refine WL.v (by first | exact r_eql rfl rfl (decide_eq_true (by omega)) | exact r_eql rfl rfl (decide_eq_false (by omega)) | exact r_eql rfl rfl rfl) rfl rfl rfl ?_
      refine WL.fin hK2000 (fun _ _ h => h) ?_
      refine WC.condF rfl rfl ?_
      refine WC.skipJ hKC (fun _ _ h => h) () (by rw [e]; exact st) (by repeat (first | exact sub_nil _ | refine sub_cons rfl rfl ?_))
    by_cases hk7 : o.kind = 7
    · obtain ⟨hF, hb⟩ := hw0 hc0 hk7
      obtain ⟨t, ht16, hAt, hT, hl, hwt⟩ := cf_T hF
      obtain ⟨c', hc'⟩ : ∃ c : Nat, o.B = (c : Nat) := ⟨o.B.toNat, by omega⟩
      have hc12 : c' < 12 := by omega
      have e : M1 = upd2 (tcF s) t c' true := by rw [hM1]; unfold drM; rw [if_pos ⟨hc0, hk7⟩, hAt, hc']; rfl
      refine WC.seq fun K2001 hK2001 => ?_
      -- region 6
      refine WC.region ?_
      -- R6.0 55 := more.go:23 fieldAddr
      refine WL.v (by exact r_field ty_fld36_3 rfl) rfl rfl rfl ?_
      -- R6.1 56 := more.go:23 fieldAddr
      refine WL.v (by exact r_field ty_fld34_0 rfl) rfl rfl rfl ?_
      -- R6.2 57 := more.go:23 load
      refine WL.v (by exact r_load1 (v := .int .i64 code) ty_one30 rfl (by rw [← f7]; exact st.c1 (by decide))) rfl rfl rfl ?_
      -- R6.3 58 := more.go:23 binOp
      refine WL.v (by first | exact r_eql rfl rfl (decide_eq_true (by omega)) | exact r_eql rfl rfl (decide_eq_false (by omega)) | exact r_eql rfl rfl rfl) rfl rfl rfl ?_
      refine WL.fin hK2001 (fun _ _ h => h) ?_
      refine WC.condT rfl rfl ?_
      refine WC.seq fun K2002 hK2002 => ?_
      -- region 7
      refine WC.region ?_
      -- R7.0 59 := more.go:24 fieldAddr
      refine WL.v (by exact r_field ty_fld36_0 rfl) rfl rfl rfl ?_
      -- R7.1 60 := more.go:24 fieldAddr
      refine WL.v (by exact r_field ty_fld28_0 rfl) rfl rfl rfl ?_
      -- R7.2 61 := more.go:24 load
      refine WL.v (by exact r_load1 (v := .int .u8 (o.kind : Nat)) ty_one25 rfl (by rw [← f0]; exact st.c1 (by decide))) rfl rfl rfl ?_
      refine WL.fin hK2002 (fun _ _ h => h) ?_
      refine WC.block ?_
      refine WC.seq fun K2003 hK2003 => ?_
      -- region 8
      refine WC.region ?_
      -- R8.0 63 := more.go:25 binOp
      refine WL.v (by first | exact r_eql rfl rfl (decide_eq_true (by omega)) | exact r_eql rfl rfl (decide_eq_false (by omega)) | exact r_eql rfl rfl rfl) rfl rfl rfl ?_
      -- R8.1 62 := more.go:25 assign
      refine WL.v (by first | exact r_assign (v := .bool _) rfl | exact r_assign rfl) rfl rfl rfl ?_
      refine WL.fin hK2003 (fun _ _ h => h) ?_
      refine WC.condT rfl rfl ?_
      -- region 9 (draws)
      refine WC.tailS 6 st ty_mixed (by kernel_rfl) fun w st Kq hKq => ?_
      -- R9.0 64 := more.go:26 move
      refine SL.v (by exact r_move (v := .int .i64 (t : Nat)) (congrArg (Value.int .i64) hT)) rfl rfl rfl ?_
      -- R9.1 65 := more.go:26 fieldAddr
      refine SL.v (by exact r_field ty_fld36_0 rfl) rfl rfl rfl ?_
      -- R9.2 66 := more.go:26 fieldAddr
      refine SL.v (by exact r_field ty_fld28_2 rfl) rfl rfl rfl ?_
      -- R9.3 67 := more.go:26 load
      refine SL.v (by exact r_load1 (v := .int .i64 (c' : Nat)) ty_one2 rfl (by rw [← hc', ← f2]; exact st.c1 (by decide))) rfl rfl rfl ?_
      -- R9.4 68 := more.go:26 indexAddr
      refine SL.v (by exact r_indexA (j := t) ty_ar88 rfl rfl rfl ht16) rfl rfl rfl ?_
      -- R9.5 69 := more.go:26 indexAddr
      refine SL.v (by exact r_indexA (j := c') ty_ar87 rfl rfl rfl hc12) rfl rfl rfl ?_
      refine SL.fin hKq ?_
      -- R9.6 None := more.go:26 store
      first | refine WL.store (v := .bool _) st ty_one4 rfl rfl rfl (by first | decide | omega) rfl rfl ?_ | refine WL.store (v := _) st ty_one4 rfl rfl rfl (by first | decide | omega) rfl rfl ?_ | refine WL.store (v := .bool _) st.front1 ty_one4 rfl rfl rfl (by first | decide | omega) rfl rfl ?_ | refine WL.store (v := _) st.front1 ty_one4 rfl rfl rfl (by first | decide | omega) rfl rfl ?_ | refine WL.store (v := .bool _) st.front2 ty_one4 rfl rfl rfl (by first | decide | omega) rfl rfl ?_ | refine WL.store (v := _) st.front2 ty_one4 rfl rfl rfl (by first | decide | omega) rfl rfl ?_ | refine WL.store (v := .bool _) st.front3 ty_one4 rfl rfl rfl (by first | decide | omega) rfl rfl ?_ | refine WL.store (v := _) st.front3 ty_one4 rfl rfl rfl (by first | decide | omega) rfl rfl ?_ | refine WL.store (v := .bool _) st.front4 ty_one4 rfl rfl rfl (by first | decide | omega) rfl rfl ?_ | refine WL.store (v := _) st.front4 ty_one4 rfl rfl rfl (by first | decide | omega) rfl rfl ?_ | refine WL.store (v := .bool _) st.front5 ty_one4 rfl rfl rfl (by first | decide | omega) rfl rfl ?_ | refine WL.store (v := _) st.front5 ty_one4 rfl rfl rfl (by first | decide | omega) rfl rfl ?_ | refine WL.store (v := .bool _) st.front6 ty_one4 rfl rfl rfl (by first | decide | omega) rfl rfl ?_ | refine WL.store (v := _) st.front6 ty_one4 rfl rfl rfl (by first | decide | omega) rfl rfl ?_ | refine WL.store (v := .bool _) st.front7 ty_one4 rfl rfl rfl (by first | decide | omega) rfl rfl ?_ | refine WL.store (v := _) st.front7 ty_one4 rfl rfl rfl (by first | decide | omega) rfl rfl ?_ | refine WL.store (v := .bool _) st.front8 ty_one4 rfl rfl rfl (by first | decide | omega) rfl rfl ?_ | refine WL.store (v := _) st.front8 ty_one4 rfl rfl rfl (by first | decide | omega) rfl rfl ?_
      intro w st
      refine WL.join hKC (fun _ _ h => h) () (by rw [e]; exact stE (dF_set ht16 hc12) st) (by repeat (first | exact sub_nil _ | refine sub_cons rfl rfl ?_))
    by_cases hk89 : o.kind = 8 ∨ o.kind = 9
    rotate_left
    · have e : M1 = tcF s := by rw [hM1]; unfold drM; rw [if_neg (fun k => hk7 k.2), if_neg (fun k => hk89 k.2)]
      refine WC.seq fun K2004 hK2004 => ?_
      -- region 6
      refine WC.region ?_
      -- R6.0 55 := more.go:23 fieldAddr
      refine WL.v (by exact r_field ty_fld36_3 rfl) rfl rfl rfl ?_
      -- R6.1 56 := more.go:23 fieldAddr
      refine WL.v (by exact r_field ty_fld34_0 rfl) rfl rfl rfl ?_
      -- R6.2 57 := more.go:23 load
      refine WL.v (by exact r_load1 (v := .int .i64 code) ty_one30 rfl (by rw [← f7]; exact st.c1 (by decide))) rfl rfl rfl ?_
      -- R6.3 58 := more.go:23 binOp
      refine WL.v (by first | exact r_eql rfl rfl (decide_eq_true (by omega)) | exact r_eql rfl rfl (decide_eq_false (by omega)) | exact r_eql rfl rfl rfl) rfl rfl rfl ?_
      refine WL.fin hK2004 (fun _ _ h => h) ?_
      refine WC.condT rfl rfl ?_
      refine WC.seq fun K2005 hK2005 => ?_
      -- region 7
      refine WC.region ?_
      -- R7.0 59 := more.go:24 fieldAddr
      refine WL.v (by exact r_field ty_fld36_0 rfl) rfl rfl rfl ?_
      -- R7.1 60 := more.go:24 fieldAddr
      refine WL.v (by exact r_field ty_fld28_0 rfl) rfl rfl rfl ?_
      -- R7.2 61 := more.go:24 load
      refine WL.v (by exact r_load1 (v := .int .u8 (o.kind : Nat)) ty_one25 rfl (by rw [← f0]; exact st.c1 (by decide))) rfl rfl rfl ?_
      refine WL.fin hK2005 (fun _ _ h => h) ?_
      refine WC.block ?_
      refine WC.seq fun K2006 hK2006 => ?_
      -- region 8
      refine WC.region ?_
      -- R8.0 63 := more.go:25 binOp
      refine WL.v (by first | exact r_eql rfl rfl (decide_eq_true (by omega)) | exact r_eql rfl rfl (decide_eq_false (by omega)) | exact r_eql rfl rfl rfl) rfl rfl rfl ?_
      -- R8.1 62 := more.go:25 assign
      refine WL.v (by first | exact r_assign (v := .bool _) rfl | exact r_assign rfl) rfl rfl rfl ?_
      refine WL.fin hK2006 (fun _ _ h => h) ?_
      refine WC.condF rfl rfl ?_
      refine WC.seq fun K2007 hK2007 => ?_
      refine WC.seq fun K2008 hK2008 => ?_
      -- region 10
      refine WC.region ?_
      -- R10.0 71 := more.go:27 binOp
      refine WL.v (by first | exact r_eql rfl rfl (decide_eq_true (by omega)) | exact r_eql rfl rfl (decide_eq_false (by omega)) | exact r_eql rfl rfl rfl) rfl rfl rfl ?_
      -- R10.1 70 := more.go:27 assign
      refine WL.v (by first | exact r_assign (v := .bool _) rfl | exact r_assign rfl) rfl rfl rfl ?_
      refine WL.fin hK2008 (fun _ _ h => h) ?_
      refine WC.condF rfl rfl ?_
      -- region 11
      refine WC.region ?_
      -- R11.0 72 := more.go:27 binOp
      refine WL.v (by first | exact r_eql rfl rfl (decide_eq_true (by omega)) | exact r_eql rfl rfl (decide_eq_false (by omega)) | exact r_eql rfl rfl rfl) rfl rfl rfl ?_
      -- R11.1 70 := more.go:27 assign
      refine WL.v (by first | exact r_assign (v := .bool _) rfl | exact r_assign rfl) rfl rfl rfl ?_
      refine WL.fin hK2007 (fun _ _ h => h) ?_
      refine WC.condF rfl rfl ?_
      refine WC.skipJ hKC (fun _ _ h => h) () (by rw [e]; exact st) (by repeat (first | exact sub_nil _ | refine sub_cons rfl rfl ?_))
    obtain ⟨t, ht16, hAt, hT, hl, hwt⟩ := cf_T (h89 hc0 hk89)
    have e : M1 = zapD (tcF s) t := by rw [hM1]; unfold drM; rw [if_neg (fun k => hk7 k.2), if_pos ⟨hc0, hk89⟩, hAt]; rfl
    by_cases hk8 : o.kind = 8
    · skip
      refine WC.seq fun K2009 hK2009 => ?_
      -- region 6
      refine WC.region ?_
      -- R6.0 55 := more.go:23 fieldAddr
      refine WL.v (by exact r_field ty_fld36_3 rfl) rfl rfl rfl ?_
      -- R6.1 56 := more.go:23 fieldAddr
      refine WL.v (by exact r_field ty_fld34_0 rfl) rfl rfl rfl ?_
      -- R6.2 57 := more.go:23 load
      refine WL.v (by exact r_load1 (v := .int .i64 code) ty_one30 rfl (by rw [← f7]; exact st.c1 (by decide))) rfl rfl rfl ?_
      -- R6.3 58 := more.go:23 binOp
      refine WL.v (by first | exact r_eql rfl rfl (decide_eq_true (by omega)) | exact r_eql rfl rfl (decide_eq_false (by omega)) | exact r_eql rfl rfl rfl) rfl rfl rfl ?_
      refine WL.fin hK2009 (fun _ _ h => h) ?_
      refine WC.condT rfl rfl ?_
      refine WC.seq fun K2010 hK2010 => ?_
      -- region 7
      refine WC.region ?_
      -- R7.0 59 := more.go:24 fieldAddr
      refine WL.v (by exact r_field ty_fld36_0 rfl) rfl rfl rfl ?_
      -- R7.1 60 := more.go:24 fieldAddr
      refine WL.v (by exact r_field ty_fld28_0 rfl) rfl rfl rfl ?_
      -- R7.2 61 := more.go:24 load
      refine WL.v (by exact r_load1 (v := .int .u8 (o.kind : Nat)) ty_one25 rfl (by rw [← f0]; exact st.c1 (by decide))) rfl rfl rfl ?_
      refine WL.fin hK2010 (fun _ _ h => h) ?_
      refine WC.block ?_
      refine WC.seq fun K2011 hK2011 => ?_
      -- region 8
      refine WC.region ?_
      -- R8.0 63 := more.go:25 binOp
      refine WL.v (by first | exact r_eql rfl rfl (decide_eq_true (by omega)) | exact r_eql rfl rfl (decide_eq_false (by omega)) | exact r_eql rfl rfl rfl) rfl rfl rfl ?_
      -- R8.1 62 := more.go:25 assign
      refine WL.v (by first | exact r_assign (v := .bool _) rfl | exact r_assign rfl) rfl rfl rfl ?_
      refine WL.fin hK2011 (fun _ _ h => h) ?_
      refine WC.condF rfl rfl ?_
      refine WC.seq fun K2012 hK2012 => ?_
      refine WC.seq fun K2013 hK2013 => ?_
      -- region 10
      refine WC.region ?_
      -- R10.0 71 := more.go:27 binOp
      refine WL.v (by first | exact r_eql rfl rfl (decide_eq_true (by omega)) | exact r_eql rfl rfl (decide_eq_false (by omega)) | exact r_eql rfl rfl rfl) rfl rfl rfl ?_
      -- R10.1 70 := more.go:27 assign
      refine WL.v (by first | exact r_assign (v := .bool _) rfl | exact r_assign rfl) rfl rfl rfl ?_
      refine WL.fin hK2013 (fun _ _ h => h) ?_
      refine WC.condT rfl rfl ?_
      refine WC.skipF hK2012 (fun _ _ h => h) ?_
      refine WC.condT rfl rfl ?_
      -- region 12
      refine WC.region ?_
      -- R12.0 73 := more.go:28 move
      refine WL.v (by exact r_move (v := .int .i64 (t : Nat)) (congrArg (Value.int .i64) hT)) rfl rfl rfl ?_
      -- R12.1 74 := more.go:28 build
      refine WL.v (by exact r_buildN (n := 12) (z := fun _ => .bool false) (v := fun _ => .bool false) (ps := []) ty_pl87 ty_zeroN87 rfl fill_nil) rfl rfl rfl ?_
      -- R12.2 75 := more.go:28 indexAddr
      refine WL.v (by exact r_indexA (j := t) ty_ar88 rfl rfl rfl ht16) rfl rfl rfl ?_
      -- R12.3 None := more.go:28 store
      refine WL.storeN (v := fun _ => .bool false) st ty_agg87 rfl rfl (fun _ _ => rfl) (by omega) rfl rfl ?_
      intro w st
      refine WL.join hKC (fun _ _ h => h) () (by rw [e]; exact stE (dF_zap ht16) st) (by repeat (first | exact sub_nil _ | refine sub_cons rfl rfl ?_))
    · have hk9 : o.kind = 9 := by omega
      refine WC.seq fun K2014 hK2014 => ?_
      -- region 6
      refine WC.region ?_
      -- R6.0 55 := more.go:23 fieldAddr
      refine WL.v (by exact r_field ty_fld36_3 rfl) rfl rfl rfl ?_
      -- R6.1 56 := more.go:23 fieldAddr
      refine WL.v (by exact r_field ty_fld34_0 rfl) rfl rfl rfl ?_
      -- R6.2 57 := more.go:23 load
      refine WL.v (by exact r_load1 (v := .int .i64 code) ty_one30 rfl (by rw [← f7]; exact st.c1 (by decide))) rfl rfl rfl ?_
      -- R6.3 58 := more.go:23 binOp
      refine WL.v (by first | exact r_eql rfl rfl (decide_eq_true (by omega)) | exact r_eql rfl rfl (decide_eq_false (by omega)) | exact r_eql rfl rfl rfl) rfl rfl rfl ?_
      refine WL.fin hK2014 (fun _ _ h => h) ?_
      refine WC.condT rfl rfl ?_
      refine WC.seq fun K2015 hK2015 => ?_
      -- region 7
      refine WC.region ?_
      -- R7.0 59 := more.go:24 fieldAddr
      refine WL.v (by exact r_field ty_fld36_0 rfl) rfl rfl rfl ?_
      -- R7.1 60 := more.go:24 fieldAddr
      refine WL.v (by exact r_field ty_fld28_0 rfl) rfl rfl rfl ?_
      -- R7.2 61 := more.go:24 load
      refine WL.v (by exact r_load1 (v := .int .u8 (o.kind : Nat)) ty_one25 rfl (by rw [← f0]; exact st.c1 (by decide))) rfl rfl rfl ?_
      refine WL.fin hK2015 (fun _ _ h => h) ?_
      refine WC.block ?_
      refine WC.seq fun K2016 hK2016 => ?_
      -- region 8
      refine WC.region ?_
      -- R8.0 63 := more.go:25 binOp
      refine WL.v (by first | exact r_eql rfl rfl (decide_eq_true (by omega)) | exact r_eql rfl rfl (decide_eq_false (by omega)) | exact r_eql rfl rfl rfl) rfl rfl rfl ?_
      -- R8.1 62 := more.go:25 assign
      refine WL.v (by first | exact r_assign (v := .bool _) rfl | exact r_assign rfl) rfl rfl rfl ?_
      refine WL.fin hK2016 (fun _ _ h => h) ?_
      refine WC.condF rfl rfl ?_
      refine WC.seq fun K2017 hK2017 => ?_
      refine WC.seq fun K2018 hK2018 => ?_
      -- region 10
      refine WC.region ?_
      -- R10.0 71 := more.go:27 binOp
      refine WL.v (by first | exact r_eql rfl rfl (decide_eq_true (by omega)) | exact r_eql rfl rfl (decide_eq_false (by omega)) | exact r_eql rfl rfl rfl) rfl rfl rfl ?_
      -- R10.1 70 := more.go:27 assign
      refine WL.v (by first | exact r_assign (v := .bool _) rfl | exact r_assign rfl) rfl rfl rfl ?_
      refine WL.fin hK2018 (fun _ _ h => h) ?_
      refine WC.condF rfl rfl ?_
      -- region 11
      refine WC.region ?_
      -- R11.0 72 := more.go:27 binOp
      refine WL.v (by first | exact r_eql rfl rfl (decide_eq_true (by omega)) | exact r_eql rfl rfl (decide_eq_false (by omega)) | exact r_eql rfl rfl rfl) rfl rfl rfl ?_
      -- R11.1 70 := more.go:27 assign
      refine WL.v (by first | exact r_assign (v := .bool _) rfl | exact r_assign rfl) rfl rfl rfl ?_
      refine WL.fin hK2017 (fun _ _ h => h) ?_
      refine WC.condT rfl rfl ?_
      -- region 12
      refine WC.region ?_
      -- R12.0 73 := more.go:28 move
      refine WL.v (by exact r_move (v := .int .i64 (t : Nat)) (congrArg (Value.int .i64) hT)) rfl rfl rfl ?_
      -- R12.1 74 := more.go:28 build
      refine WL.v (by exact r_buildN (n := 12) (z := fun _ => .bool false) (v := fun _ => .bool false) (ps := []) ty_pl87 ty_zeroN87 rfl fill_nil) rfl rfl rfl ?_
      -- R12.2 75 := more.go:28 indexAddr
      refine WL.v (by exact r_indexA (j := t) ty_ar88 rfl rfl rfl ht16) rfl rfl rfl ?_
      -- R12.3 None := more.go:28 store
      refine WL.storeN (v := fun _ => .bool false) st ty_agg87 rfl rfl (fun _ _ => rfl) (by omega) rfl rfl ?_
      intro w st
      refine WL.join hKC (fun _ _ h => h) () (by rw [e]; exact stE (dF_zap ht16) st) (by repeat (first | exact sub_nil _ | refine sub_cons rfl rfl ?_))
  clear st
  rintro _ w st
  refine WC.seq fun K2019 hK2019 => ?_
  refine WC.seq fun K2020 hK2020 => ?_
  -- region 13
  refine WC.region ?_
  -- R13.0 76 := more.go:31 load
  refine WL.v (by exact r_loadL (vs := stepL o bB bA code task (.slice a ans.length c)) ty_agg36 rfl ⟨(st.c1 (by decide)).trans (congrArg some f0), (st.c1 (by decide)).trans (congrArg some f1), (st.c1 (by decide)).trans (congrArg some f2), (st.c1 (by decide)).trans (congrArg some f3), (st.c1 (by decide)).trans (congrArg some f4), (st.c1 (by decide)).trans (congrArg some f5), (st.c1 (by decide)).trans (congrArg some f6), (st.c1 (by decide)).trans (congrArg some f7), (st.c1 (by decide)).trans (congrArg some f8), (st.c1 (by decide)).trans (congrArg some f9), trivial⟩) rfl rfl rfl ?_
  -- R13.1 77 := more.go:31 call
  refine WL.call (r_call ty_call29 rfl) rfl rfl rfl (told_ok (o := o) (cd := 3) (hck2 _) h16 st) ?_
  rintro _ w ⟨rfl, st⟩
  -- R13.2 78 := more.go:31 call
  refine WL.call (r_call ty_call31 rfl) rfl rfl rfl (tasks_ok hD (toldL_lt ans (by decide) h16) st) ?_
  rintro _ w ⟨XT, hXT, st⟩
  obtain ⟨Ts, hTs⟩ : ∃ Ts, Ts = tasksP (toldP ans 3) := ⟨_, rfl⟩
  have hT16 : ∀ o, o ∈ Ts → o < 16 := fun o h => by rw [hTs] at h; exact tasksP_lt h
  have hTl : Ts.length ≤ 16 := by rw [hTs]; exact tasksP_len
  rw [← hTs] at hXT
  obtain ⟨at', ct, bt, rfl, hct1, hct2, hat', htcell⟩ := hXT.form
  -- R13.3 79 := more.go:31 call
  refine WL.v (by exact r_len ty_usl54 rfl) rfl rfl rfl ?_
  -- R13.4 80 := more.go:31 move
  refine WL.v (by first | exact r_move (v := .int _ _) rfl | exact r_move rfl) rfl rfl rfl ?_
  refine WL.fin hK2020 (fun _ _ h => h) ?_
  refine WC.block ?_
  refine WC.loop (ι := Nat) (fun k => [(1, .pointer (some ⟨b0, 0, none⟩)), (2, .pointer (some ⟨b2, 0, none⟩)), (78, .slice at' Ts.length ct), (79, .int .i64 (Ts.length : Nat)), (80, .int .i64 (k : Nat))])
    (fun k w' => k ≤ Ts.length ∧ S0 w0 ((b0, Row 88 192 (dF ((Ts.take k).foldl zapD M1))) :: (XT ++ ((b2, Row 36 10 fs) :: l))) w') (fun k => Ts.length - k) 0 ⟨Nat.zero_le _, st.perm (by classical exact List.perm_iff_count.2 fun x => by simp only [List.count_append, List.count_cons, List.count_nil, List.append_eq, List.cons_append, List.nil_append, List.append_assoc, Nat.add_zero, Nat.zero_add] <;> ac_rfl)⟩ ?_ ?_
  · skip
    repeat (first | exact sub_nil _ | refine sub_cons rfl rfl ?_)
  clear st
  rintro k w ⟨hk, st⟩ K2 hK2
  by_cases hkl : k = Ts.length
  rotate_left
  · have hkl' : k < Ts.length := by omega
    obtain ⟨v, hv⟩ : ∃ v, Ts[k]? = some v := ⟨Ts[k], List.getElem?_eq_getElem hkl'⟩
    have hv16 := hT16 v (List.mem_of_getElem? hv)
    have hfo := foldl_snoc (f := zapD) (b := M1) hv
    obtain rfl := hat' (by omega)
    have hce := htcell st (fun x hx => List.mem_cons_of_mem _ (List.mem_append_left _ hx)) k v hv 0 (by decide)
    refine WC.seq fun K2021 hK2021 => ?_
    -- region 14
    refine WC.region ?_
    -- R14.0 81 := more.go:31 binOp
    refine WL.v (by first | exact r_lss rfl rfl (decide_eq_true (by omega)) | exact r_lss rfl rfl (decide_eq_false (by omega)) | exact r_lss rfl rfl rfl) rfl rfl rfl ?_
    refine WL.fin hK2021 (fun _ _ h => h) ?_
    refine WC.seq fun K2022 hK2022 => ?_
    refine WC.condT rfl rfl ?_
    refine WC.skipF hK2022 (fun _ _ h => h) ?_
    refine WC.seq fun K2023 hK2023 => ?_
    refine WC.block ?_
    refine WC.seq fun K2024 hK2024 => ?_
    -- region 15
    refine WC.region ?_
    -- R15.0 82 := more.go:31 indexAddr
    refine WL.v (by exact r_indexS (j := k) ty_sl54 rfl rfl rfl (by omega)) rfl rfl rfl ?_
    -- R15.1 83 := more.go:31 load
    refine WL.v (by exact r_load1 (v := .int .i64 (v : Nat)) ty_one31 rfl (by rw [Nat.zero_add]; exact hce)) rfl rfl rfl ?_
    -- R15.2 7 := more.go:31 assign
    refine WL.v (by first | exact r_assign (v := .int _ _) rfl | exact r_assign rfl) rfl rfl rfl ?_
    refine WL.fin hK2024 (fun _ _ h => h) ?_
    -- region 16
    refine WC.region ?_
    -- R16.0 84 := more.go:32 move
    refine WL.v (by first | exact r_move (v := .int _ _) rfl | exact r_move rfl) rfl rfl rfl ?_
    -- R16.1 85 := more.go:32 build
    refine WL.v (by exact r_buildN (n := 12) (z := fun _ => .bool false) (v := fun _ => .bool false) (ps := []) ty_pl87 ty_zeroN87 rfl fill_nil) rfl rfl rfl ?_
    -- R16.2 86 := more.go:32 indexAddr
    refine WL.v (by exact r_indexA (j := v) ty_ar88 rfl rfl rfl hv16) rfl rfl rfl ?_
    -- R16.3 None := more.go:32 store
    refine WL.storeN (v := fun _ => .bool false) st ty_agg87 rfl rfl (fun _ _ => rfl) (by omega) rfl rfl ?_
    intro w st
    refine WL.fin hK2023 (fun _ _ h => h) ?_
    -- region 17
    refine WC.region ?_
    -- R17.0 87 := more.go:31 binOp
    refine WL.v (by first | exact r_add rfl rfl (wi64 (by omega) (by omega)) | exact r_add rfl rfl rfl) rfl rfl rfl ?_
    -- R17.1 80 := more.go:31 move
    refine WL.v (by first | exact r_move (v := .int _ _) rfl | exact r_move rfl) rfl rfl rfl ?_
    refine WL.next hK2 (fun _ _ h => h) (k + 1) ⟨hkl', by rw [hfo]; exact stE (dF_zap hv16) st⟩ (by omega) (by repeat (first | exact sub_nil _ | refine sub_cons rfl rfl ?_))
  subst hkl
  rw [List.take_length] at st
  have st : S0 w0 ((b0, Row 88 192 (dF (tcF s'))) :: (b2, Row 36 10 fs) :: l) w := by
    refine stE (fun k hk => ?_) (st_dropL (st.perm (by classical exact List.perm_iff_count.2 fun x => by simp only [List.count_append, List.count_cons, List.count_nil, List.append_eq, List.cons_append, List.nil_append, List.append_assoc, Nat.add_zero, Nat.zero_add] <;> ac_rfl) : S0 w0 (XT ++ ((b0, Row 88 192 (dF (Ts.foldl zapD M1))) :: (b2, Row 36 10 fs) :: l)) w))
    unfold dF
    have : Ts.foldl zapD M1 (k / 12) (k % 12) = tcF s' (k / 12) (k % 12) := by
      rw [hn, foldl_zapD, hTs]
      by_cases hb : (toldP ans 3).testBit (k / 12) = true
      · rw [if_pos (tasksP_mem.2 ⟨by omega, hb⟩), if_pos hb]
      · rw [if_neg (fun h => hb (tasksP_mem.1 h).2), if_neg hb]
    rw [this]
  refine WC.seq fun K2025 hK2025 => ?_
  -- region 14
  refine WC.region ?_
  -- R14.0 81 := more.go:31 binOp
  refine WL.v (by first | exact r_lss rfl rfl (decide_eq_true (by omega)) | exact r_lss rfl rfl (decide_eq_false (by omega)) | exact r_lss rfl rfl rfl) rfl rfl rfl ?_
  refine WL.fin hK2025 (fun _ _ h => h) ?_
  refine WC.seq fun K2026 hK2026 => ?_
  refine WC.condF rfl rfl ?_
  refine WC.exitF hK2019 (fun _ _ h => h) ?_
  refine WC.seq fun K2027 hK2027 => ?_
  refine WC.seq fun K2028 hK2028 => ?_
  -- region 18
  refine WC.region ?_
  -- R18.0 88 := more.go:34 move
  refine WL.v (by first | exact r_move (v := .int _ _) rfl | exact r_move rfl) rfl rfl rfl ?_
  refine WL.fin hK2028 (fun _ _ h => h) ?_
  refine WC.block ?_
  refine WC.loop (ι := Nat) (fun i => [(1, .pointer (some ⟨b0, 0, none⟩)), (2, .pointer (some ⟨b2, 0, none⟩)), (88, .int .i64 (i : Nat))])
    (fun i w' => i ≤ 16 ∧ S0 w0 ((b0, Row 88 192 (dF (tcF s'))) :: (b2, Row 36 10 fs) :: l) w') (fun i => 16 - i) 0 ⟨Nat.zero_le _, st⟩ ?_ ?_
  · skip
    repeat (first | exact sub_nil _ | refine sub_cons rfl rfl ?_)
  clear st
  rintro i w ⟨hi, st⟩ K3 hK3
  by_cases h16' : i = 16
  · skip
    refine WC.seq fun K2029 hK2029 => ?_
    -- region 19
    refine WC.region ?_
    -- R19.0 89 := more.go:34 binOp
    refine WL.v (by first | exact r_lss rfl rfl (decide_eq_true (by omega)) | exact r_lss rfl rfl (decide_eq_false (by omega)) | exact r_lss rfl rfl rfl) rfl rfl rfl ?_
    refine WL.fin hK2029 (fun _ _ h => h) ?_
    refine WC.seq fun K2030 hK2030 => ?_
    refine WC.condF rfl rfl ?_
    refine WC.exitF hK2027 (fun _ _ h => h) ?_
    refine WC.seq fun K2031 hK2031 => ?_
    -- region 28
    refine WC.region ?_
    -- R28.0 3 := more.go:41 assign
    refine WL.v (by first | exact r_assign (v := .bool _) rfl | exact r_assign rfl) rfl rfl rfl ?_
    refine WL.fin hK2031 (fun _ _ h => h) ?_
    refine WC.ret1 Tryz.results64 (fun _ _ h => h) rfl ?_
    exact ⟨_, rfl, rfl, st.drop1⟩
  have hi' : i < 16 := by omega
  refine WC.seq fun K2032 hK2032 => ?_
  -- region 19
  refine WC.region ?_
  -- R19.0 89 := more.go:34 binOp
  refine WL.v (by first | exact r_lss rfl rfl (decide_eq_true (by omega)) | exact r_lss rfl rfl (decide_eq_false (by omega)) | exact r_lss rfl rfl rfl) rfl rfl rfl ?_
  refine WL.fin hK2032 (fun _ _ h => h) ?_
  refine WC.seq fun K2033 hK2033 => ?_
  refine WC.condT rfl rfl ?_
  refine WC.skipF hK2033 (fun _ _ h => h) ?_
  refine WC.seq fun K2034 hK2034 => ?_
  refine WC.block ?_
  refine WC.seq fun K2035 hK2035 => ?_
  -- region 20
  refine WC.region ?_
  -- R20.0 90 := more.go:34 move
  refine WL.v (by first | exact r_move (v := .int _ _) rfl | exact r_move rfl) rfl rfl rfl ?_
  -- R20.1 8 := more.go:34 assign
  refine WL.v (by first | exact r_assign (v := .int _ _) rfl | exact r_assign rfl) rfl rfl rfl ?_
  refine WL.fin hK2035 (fun _ _ h => h) ?_
  refine WC.seq fun K2036 hK2036 => ?_
  -- region 21
  refine WC.region ?_
  -- R21.0 91 := more.go:35 move
  refine WL.v (by first | exact r_move (v := .int _ _) rfl | exact r_move rfl) rfl rfl rfl ?_
  -- R21.1 92 := more.go:35 indexAddr
  refine WL.v (by exact r_indexA (j := i) ty_ar88 rfl rfl rfl hi') rfl rfl rfl ?_
  -- R21.2 93 := more.go:35 load
  refine WL.v (by exact r_loadN (f := (fun c => .bool (tcF s' i c))) ty_agg87 rfl (fun j hj => c_dF (D := tcF s') List.mem_cons_self hi' hj (by omega) st)) rfl rfl rfl ?_
  -- R21.3 94 := more.go:35 move
  refine WL.v (by first | exact r_move (v := .int _ _) rfl | exact r_move rfl) rfl rfl rfl ?_
  refine WL.fin hK2036 (fun _ _ h => h) ?_
  refine WC.block ?_
  refine WC.loop (ι := Nat) (fun c => [(1, .pointer (some ⟨b0, 0, none⟩)), (2, .pointer (some ⟨b2, 0, none⟩)), (88, .int .i64 (i : Nat)), (8, .int .i64 (i : Nat)), (93, .agg (mkA 12 fun c => .bool (tcF s' i c))), (94, .int .i64 (c : Nat))])
    (fun c w' => c ≤ 12 ∧ S0 w0 ((b0, Row 88 192 (dF (tcF s'))) :: (b2, Row 36 10 fs) :: l) w') (fun c => 12 - c) 0 ⟨Nat.zero_le _, st⟩ ?_ ?_
  · skip
    repeat (first | exact sub_nil _ | refine sub_cons rfl rfl ?_)
  clear st
  rintro c' w ⟨hc, st⟩ K4 hK4
  by_cases h12 : c' = 12
  · skip
    refine WC.seq fun K2037 hK2037 => ?_
    -- region 22
    refine WC.region ?_
    -- R22.0 95 := more.go:35 binOp
    refine WL.v (by first | exact r_lss rfl rfl (decide_eq_true (by omega)) | exact r_lss rfl rfl (decide_eq_false (by omega)) | exact r_lss rfl rfl rfl) rfl rfl rfl ?_
    refine WL.fin hK2037 (fun _ _ h => h) ?_
    refine WC.seq fun K2038 hK2038 => ?_
    refine WC.condF rfl rfl ?_
    refine WC.exitF hK2034 (fun _ _ h => h) ?_
    -- region 27
    refine WC.region ?_
    -- R27.0 113 := more.go:34 binOp
    refine WL.v (by first | exact r_add rfl rfl (wi64 (by omega) (by omega)) | exact r_add rfl rfl rfl) rfl rfl rfl ?_
    -- R27.1 88 := more.go:34 move
    refine WL.v (by first | exact r_move (v := .int _ _) rfl | exact r_move rfl) rfl rfl rfl ?_
    refine WL.next hK3 (fun _ _ h => h) (i + 1) ⟨hi', st⟩ (by omega) (by repeat (first | exact sub_nil _ | refine sub_cons rfl rfl ?_))
  have hc' : c' < 12 := by omega
  rcases htc : tcF s' i c' with _ | _
  · skip
    refine WC.seq fun K2039 hK2039 => ?_
    -- region 22
    refine WC.region ?_
    -- R22.0 95 := more.go:35 binOp
    refine WL.v (by first | exact r_lss rfl rfl (decide_eq_true (by omega)) | exact r_lss rfl rfl (decide_eq_false (by omega)) | exact r_lss rfl rfl rfl) rfl rfl rfl ?_
    refine WL.fin hK2039 (fun _ _ h => h) ?_
    refine WC.seq fun K2040 hK2040 => ?_
    refine WC.condT rfl rfl ?_
    refine WC.skipF hK2040 (fun _ _ h => h) ?_
    refine WC.seq fun K2041 hK2041 => ?_
    refine WC.block ?_
    refine WC.seq fun K2042 hK2042 => ?_
    -- region 23
    refine WC.region ?_
    -- R23.0 96 := more.go:35 move
    refine WL.v (by first | exact r_move (v := .int _ _) rfl | exact r_move rfl) rfl rfl rfl ?_
    -- R23.1 97 := more.go:35 index
    refine WL.v (by exact r_indexV (k := 0) (cs := mkA 12 fun c => .bool (tcF s' i c)) (v := .bool false) ty_ar87 ty_one4 rfl rfl rfl (by omega) (by rw [← htc]; exact mkA_get hc')) rfl rfl rfl ?_
    -- R23.2 9 := more.go:35 assign
    refine WL.v (by first | exact r_assign (v := .int _ _) rfl | exact r_assign rfl) rfl rfl rfl ?_
    -- R23.3 10 := more.go:35 assign
    refine WL.v (by first | exact r_assign (v := .bool _) rfl | exact r_assign rfl) rfl rfl rfl ?_
    refine WL.fin hK2042 (fun _ _ h => h) ?_
    refine WC.seq fun K2043 hK2043 => ?_
    -- region 24 (draws)
    refine WC.quietS st ty_mixed (by kernel_rfl) fun Kq hKq => ?_
    -- R24.0 98 := more.go:36 move
    refine QL.v (fun w st => by first | exact r_move (v := .bool _) rfl | exact r_move rfl) rfl rfl rfl ?_
    -- R24.1 99 := more.go:36 move
    refine QL.v (fun w st => by first | exact r_move (v := .bool _) rfl | exact r_move rfl) rfl rfl rfl ?_
    -- R24.2 100 := more.go:36 fieldAddr
    refine QL.no rfl rfl ?_
    -- R24.3 101 := more.go:36 load
    refine QL.no rfl rfl ?_
    -- R24.4 102 := more.go:36 move
    refine QL.no rfl rfl ?_
    -- R24.5 103 := more.go:36 move
    refine QL.no rfl rfl ?_
    -- R24.6 104 := more.go:36 call
    refine QL.no rfl rfl ?_
    -- R24.7 105 := more.go:36 nilCheck
    refine QL.no rfl rfl ?_
    -- R24.8 106 := more.go:36 fieldAddr
    refine QL.no rfl rfl ?_
    -- R24.9 107 := more.go:36 indexAddr
    refine QL.no rfl rfl ?_
    -- R24.10 108 := more.go:36 indexAddr
    refine QL.no rfl rfl ?_
    -- R24.11 109 := more.go:36 load
    refine QL.no rfl rfl ?_
    -- R24.12 110 := more.go:36 binOp
    refine QL.no rfl rfl ?_
    -- R24.13 111 := more.go:36 pick
    refine QL.v (fun w st => by first | exact r_pickT (v := .bool _) rfl rfl | exact r_pickF (v := .bool _) rfl rfl) rfl rfl rfl ?_
    refine QL.wl hKq fun w st => ?_
    refine WL.fin hK2043 (fun _ _ h => h) ?_
    refine WC.condF rfl rfl ?_
    refine WC.skipF hK2041 (fun _ _ h => h) ?_
    -- region 26
    refine WC.region ?_
    -- R26.0 112 := more.go:35 binOp
    refine WL.v (by first | exact r_add rfl rfl (wi64 (by omega) (by omega)) | exact r_add rfl rfl rfl) rfl rfl rfl ?_
    -- R26.1 94 := more.go:35 move
    refine WL.v (by first | exact r_move (v := .int _ _) rfl | exact r_move rfl) rfl rfl rfl ?_
    refine WL.next hK4 (fun _ _ h => h) (c' + 1) ⟨hc', st⟩ (by omega) (by repeat (first | exact sub_nil _ | refine sub_cons rfl rfl ?_))
  · have hh := hL i c' htc
    refine WC.seq fun K2044 hK2044 => ?_
    -- region 22
    refine WC.region ?_
    -- R22.0 95 := more.go:35 binOp
    refine WL.v (by first | exact r_lss rfl rfl (decide_eq_true (by omega)) | exact r_lss rfl rfl (decide_eq_false (by omega)) | exact r_lss rfl rfl rfl) rfl rfl rfl ?_
    refine WL.fin hK2044 (fun _ _ h => h) ?_
    refine WC.seq fun K2045 hK2045 => ?_
    refine WC.condT rfl rfl ?_
    refine WC.skipF hK2045 (fun _ _ h => h) ?_
    refine WC.seq fun K2046 hK2046 => ?_
    refine WC.block ?_
    refine WC.seq fun K2047 hK2047 => ?_
    -- region 23
    refine WC.region ?_
    -- R23.0 96 := more.go:35 move
    refine WL.v (by first | exact r_move (v := .int _ _) rfl | exact r_move rfl) rfl rfl rfl ?_
    -- R23.1 97 := more.go:35 index
    refine WL.v (by exact r_indexV (k := 0) (cs := mkA 12 fun c => .bool (tcF s' i c)) (v := .bool true) ty_ar87 ty_one4 rfl rfl rfl (by omega) (by rw [← htc]; exact mkA_get hc')) rfl rfl rfl ?_
    -- R23.2 9 := more.go:35 assign
    refine WL.v (by first | exact r_assign (v := .int _ _) rfl | exact r_assign rfl) rfl rfl rfl ?_
    -- R23.3 10 := more.go:35 assign
    refine WL.v (by first | exact r_assign (v := .bool _) rfl | exact r_assign rfl) rfl rfl rfl ?_
    refine WL.fin hK2047 (fun _ _ h => h) ?_
    refine WC.seq fun K2048 hK2048 => ?_
    -- region 24 (draws)
    refine WC.quietS st ty_mixed (by kernel_rfl) fun Kq hKq => ?_
    -- R24.0 98 := more.go:36 move
    refine QL.v (fun w st => by first | exact r_move (v := .bool _) rfl | exact r_move rfl) rfl rfl rfl ?_
    -- R24.1 99 := more.go:36 move
    refine QL.v (fun w st => by first | exact r_move (v := .bool _) rfl | exact r_move rfl) rfl rfl rfl ?_
    -- R24.2 100 := more.go:36 fieldAddr
    refine QL.v (fun w st => by exact r_field ty_fld36_2 rfl) rfl rfl rfl ?_
    -- R24.3 101 := more.go:36 load
    refine QL.v (fun w st => by exact r_load1 (v := .pointer (some ⟨bA, 0, none⟩)) ty_one29 rfl (by rw [← f6]; exact st.c1 (by decide))) rfl rfl rfl ?_
    -- R24.4 102 := more.go:36 move
    refine QL.v (fun w st => by first | exact r_move (v := .int _ _) rfl | exact r_move rfl) rfl rfl rfl ?_
    -- R24.5 103 := more.go:36 move
    refine QL.v (fun w st => by first | exact r_move (v := .int _ _) rfl | exact r_move rfl) rfl rfl rfl ?_
    -- R24.6 104 := more.go:36 call
    refine QL.call (val := .int .i64 ((8 + c' : Nat) : Int)) (fun w st => r_call ty_call48 rfl) rfl rfl rfl (fun w st => lockOf_ok (c := c') (by omega) st) ?_
    -- R24.7 105 := more.go:36 nilCheck
    refine QL.v (fun w st => by exact r_nilCheck rfl) rfl rfl rfl ?_
    -- R24.8 106 := more.go:36 fieldAddr
    refine QL.v (fun w st => by exact r_field ty_fld50_4 rfl) rfl rfl rfl ?_
    -- R24.9 107 := more.go:36 indexAddr
    refine QL.v (fun w st => by exact r_indexA (j := i) ty_ar45 rfl rfl rfl hi') rfl rfl rfl ?_
    -- R24.10 108 := more.go:36 indexAddr
    refine QL.v (fun w st => by exact r_indexA (j := 8 + c') ty_ar44 rfl rfl rfl (by omega)) rfl rfl rfl ?_
    -- R24.11 109 := more.go:36 load
    refine QL.v (fun w st => by exact r_load1 (v := .int .i64 (s'.held i (8 + c') : Nat)) ty_one3 rfl (c_sH (hck2 _).A hi' (by omega) (by omega) st)) rfl rfl rfl ?_
    -- R24.12 110 := more.go:36 binOp
    refine QL.v (fun w st => by first | exact r_neq rfl rfl (decide_eq_true (by omega)) | exact r_neq rfl rfl (decide_eq_false (by omega)) | exact r_neq rfl rfl rfl) rfl rfl rfl ?_
    -- R24.13 111 := more.go:36 pick
    refine QL.v (fun w st => by first | exact r_pickT (v := .bool _) rfl rfl | exact r_pickF (v := .bool _) rfl rfl) rfl rfl rfl ?_
    refine QL.wl hKq fun w st => ?_
    refine WL.fin hK2048 (fun _ _ h => h) ?_
    refine WC.condF rfl rfl ?_
    refine WC.skipF hK2046 (fun _ _ h => h) ?_
    -- region 26
    refine WC.region ?_
    -- R26.0 112 := more.go:35 binOp
    refine WL.v (by first | exact r_add rfl rfl (wi64 (by omega) (by omega)) | exact r_add rfl rfl rfl) rfl rfl rfl ?_
    -- R26.1 94 := more.go:35 move
    refine WL.v (by first | exact r_move (v := .int _ _) rfl | exact r_move rfl) rfl rfl rfl ?_
    refine WL.next hK4 (fun _ _ h => h) (c' + 1) ⟨hc', st⟩ (by omega) (by repeat (first | exact sub_nil _ | refine sub_cons rfl rfl ?_))
theorem dirty_ok (a : Option Addr) (sb so n c : Nat) (op : Nat → Kern.Op) (hD : gD w) (hS : Scr w sb so n op) (hn63 : n ≤ 140737488355328) (ha : 0 < n → a = some ⟨sb, so, none⟩) :
    Calls Tryz.prog 21 #[.slice a n c] w (Ret fun v w' => v = .bool true ∧ S0 w [] w') := by
  have st : S0 w [] w := St.init w _
  by_cases hn : n ≤ 65536
  · have hC : ∀ b0, CheckOK w 64 #[.pointer (some ⟨b0, 0, none⟩)] op n fun i LI => LI = [(b0, Row 88 192 ((fun s => dF (tcF s)) (runP op i)))] := fun b0 => by
      refine check_one (f := fun s => dF (tcF s)) fun i hi bB bA qv qv' ov l w' hck st' => ?_
      have hK := run_KI op i
      have hI := run_INV op i
      have hV := run_VN op i
      have hL := run_DL op i
      have hpn := (pend_step (o := op i) hK.b hI hK.told).1
      refine dirty1_ok (s := runP op i) (s' := runP op (i + 1)) hD (fun a ha => ?_) (hS.b i hi) (fun h6 hf hb ht => ?_) code17 (fun h0 h7 => ⟨(write_ok0 hK.b hI h7 h0).1, (write_ok0 hK.b hI h7 h0).2.1⟩) (fun h0 h89 => call_ok0 hK.b hI (by omega) (by omega) h0) (dirty_step hK.b hI hV hK.told) (run_DL op (i + 1)) hck st'
      · obtain ⟨k, hk⟩ := List.getElem?_of_mem ha
        exact (PA_at hpn k a hk).1
      · have := rel_code hL h6 hf hb ht
        exact ⟨this.1, after_id this.2 hK.told⟩
    refine enter [.slice a n c] Tryz.func21 rfl Tryz.ntmps21 rfl ?_
    show WC _ _ _ 10 [] [(0, .slice a n c)] _
    refine WC.seq fun K2049 hK2049 => ?_
    -- region 0
    refine WC.region ?_
    -- R0.0 2 := more.go:9 assign
    refine WL.v (by first | exact r_assign (v := .bool _) rfl | exact r_assign rfl) rfl rfl rfl ?_
    refine WL.fin hK2049 (fun _ _ h => h) ?_
    refine WC.seq fun K2050 hK2050 => ?_
    refine WC.seq fun K2051 hK2051 => ?_
    -- region 1
    refine WC.region ?_
    -- R1.0 4 := more.go:10 move
    refine WL.v (by first | exact r_move (v := .slice _ _ _) rfl | exact r_move rfl) rfl rfl rfl ?_
    -- R1.1 5 := more.go:10 call
    refine WL.call (r_call ty_call23 rfl) rfl rfl rfl (zzSmall1_ok a n c st) ?_
    rintro _ w' ⟨he, st⟩
    rw [decide_eq_true hn] at he
    subst he
    -- R1.2 6 := more.go:10 unOp
    refine WL.v (by first | exact r_notT rfl | exact r_notF rfl | exact r_not rfl) rfl rfl rfl ?_
    refine WL.fin hK2051 (fun _ _ h => h) ?_
    refine WC.condF rfl rfl ?_
    refine WC.skipF hK2050 (fun _ _ h => h) ?_
    refine WC.seq fun K2052 hK2052 => ?_
    -- region 3
    refine WC.region ?_
    -- R3.0 3 := more.go:14 alloc
    refine WL.allocN (m := 192) st ty_zeroN88 rfl rfl ?_
    intro b3 w st
    refine WL.fin hK2052 (fun _ _ h => h) ?_
    refine WC.seq fun K2053 hK2053 => ?_
    -- region 4
    refine WC.region ?_
    -- R4.0 7 := more.go:15 move
    refine WL.v (by first | exact r_move (v := .slice _ _ _) rfl | exact r_move rfl) rfl rfl rfl ?_
    -- R4.1 8 := more.go:15 makeFunc
    refine WL.v (by exact r_mkfn rfl rfl) rfl rfl rfl ?_
    -- R4.2 9 := more.go:15 call
    have st := (stE (fun k hk => rfl) st : S0 _ ([(b3, Row 88 192 ((fun s => dF (tcF s)) ks0))] ++ []) _)
    refine WL.call (r_call ty_call24 rfl) rfl rfl rfl (play_ok (l := []) ty_call64 hD hS hn ha (hC b3) rfl st) ?_
    rintro _ w'' ⟨rfl, LI', rfl, st⟩
    -- R4.3 2 := more.go:15 assign
    refine WL.v (by first | exact r_assign (v := .bool _) rfl | exact r_assign rfl) rfl rfl rfl ?_
    refine WL.fin hK2053 (fun _ _ h => h) ?_
    refine WC.ret1 Tryz.results21 (fun _ _ h => h) rfl ?_
    exact ⟨_, rfl, rfl, st.drop⟩
  · skip
    refine enter [.slice a n c] Tryz.func21 rfl Tryz.ntmps21 rfl ?_
    show WC _ _ _ 10 [] [(0, .slice a n c)] _
    refine WC.seq fun K2054 hK2054 => ?_
    -- region 0
    refine WC.region ?_
    -- R0.0 2 := more.go:9 assign
    refine WL.v (by first | exact r_assign (v := .bool _) rfl | exact r_assign rfl) rfl rfl rfl ?_
    refine WL.fin hK2054 (fun _ _ h => h) ?_
    refine WC.seq fun K2055 hK2055 => ?_
    refine WC.seq fun K2056 hK2056 => ?_
    -- region 1
    refine WC.region ?_
    -- R1.0 4 := more.go:10 move
    refine WL.v (by first | exact r_move (v := .slice _ _ _) rfl | exact r_move rfl) rfl rfl rfl ?_
    -- R1.1 5 := more.go:10 call
    refine WL.call (r_call ty_call23 rfl) rfl rfl rfl (zzSmall1_ok a n c st) ?_
    rintro _ w' ⟨he, st⟩
    rw [decide_eq_false hn] at he
    subst he
    -- R1.2 6 := more.go:10 unOp
    refine WL.v (by first | exact r_notT rfl | exact r_notF rfl | exact r_not rfl) rfl rfl rfl ?_
    refine WL.fin hK2056 (fun _ _ h => h) ?_
    refine WC.condT rfl rfl ?_
    refine WC.seq fun K2057 hK2057 => ?_
    -- region 2
    refine WC.region ?_
    -- R2.0 2 := more.go:11 assign
    refine WL.v (by first | exact r_assign (v := .bool _) rfl | exact r_assign rfl) rfl rfl rfl ?_
    refine WL.fin hK2057 (fun _ _ h => h) ?_
    refine WC.ret1 Tryz.results21 (fun _ _ h => h) rfl ?_
    exact ⟨_, rfl, rfl, st⟩
end Go.Proofs.Qxb6500834aGreatDoor

