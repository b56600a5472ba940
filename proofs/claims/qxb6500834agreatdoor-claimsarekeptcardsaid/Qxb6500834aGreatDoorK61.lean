import Derived.Test.Qxb6500834aGreatDoorK60
import Derived.Test.Qxb6500834aGreatDoorE34
set_option linter.unusedVariables false
set_option linter.unusedSimpArgs false
set_option maxRecDepth 20000
namespace Go.Proofs.Qxb6500834aGreatDoor
open Go.RowKit Go.E1 Go.Kern
theorem ty_agg36 : aggT Tryz.prog 36 = some 10 := by kernel_rfl
theorem ty_bool4 : Program.underlying Tryz.prog 4 = some .bool := by kernel_rfl
theorem ty_call33 : callT Tryz.prog 33 = true := by kernel_rfl
theorem ty_call45 : callT Tryz.prog 45 = true := by kernel_rfl
theorem ty_call65 : callT Tryz.prog 65 = true := by kernel_rfl
variable {w0 : World} {l X : List HI} {w : World} {s s' s0 : KS} {t r N n : Nat} {qv qv' : Nat → Value}

/-! Law: claims are kept. -/
theorem hM_setC {h : Nat → Nat → Nat} {t r x : Nat} (ht : t < 16) (hr : r < 20) : ∀ k, k < 320 → upd (hM h) (0 + t * 20 + r * 1) (.int .i64 (x : Nat)) k = hM (upd2 h t r x) k := fun k hk => by
  rw [upd_eq]
  unfold hM upd2
  by_cases e : k = 0 + t * 20 + r * 1
  · rw [if_pos e, if_pos ⟨by omega, by omega⟩]
  · rw [if_neg e, if_neg (fun q => e (by omega))]
theorem hM_zap {h : Nat → Nat → Nat} {t : Nat} (ht : t < 16) : ∀ k, k < 320 → upds (hM h) (0 + t * 20) 20 (fun _ => .int .i64 0) k = hM (zapRow h t) k := fun k hk => by
  rw [upds_eq]
  unfold hM zapRow
  by_cases e : 0 + t * 20 ≤ k ∧ k < 0 + t * 20 + 20
  · rw [if_pos e, if_pos (by omega)]; rfl
  · rw [if_neg e, if_neg (by omega)]
set_option maxHeartbeats 4000000 in
theorem claims1_ok {o : Kern.Op} {bB bA : Nat} {code task : Int} {ov : Value} {ans : List (Nat × Nat × Nat)}  (hnf : cfB s o = false ∨ ¬ (0 ≤ o.B ∧ o.B < 20) → code ≠ 21 ∧ code ≠ 22 ∧ (o.kind ≠ 9 → s'.claim = s.claim)) (hd : o.kind = 2 → cfB s o = true → 0 ≤ o.B ∧ o.B < 20 → (¬ (0 ≤ o.C ∧ o.C < (totP o.B.toNat : Int) + 1) → code = 21 ∧ s' = s) ∧ (0 ≤ o.C ∧ o.C < (totP o.B.toNat : Int) + 1 → (¬ ∀ r, r < 20 → s.held o.A.toNat r = 0) → code = 22 ∧ s' = s) ∧ (0 ≤ o.C ∧ o.C < (totP o.B.toNat : Int) + 1 → (∀ r, r < 20 → s.held o.A.toNat r = 0) → code = 0 ∧ s'.claim = upd2 s.claim o.A.toNat o.B.toNat o.C.toNat)) (ha' : 3 ≤ o.kind ∧ o.kind ≤ 5 → cfB s o = true → 0 ≤ o.B ∧ o.B < 20 → code ≠ 14 → code ≠ 15 → ((s.mode = 3 ∧ (s.claim o.A.toNat o.B.toNat : Int) - s.held o.A.toNat o.B.toNat < o.C) ↔ code = 21)) (hx : o.kind = 9 → cfB s o = true → s'.claim = zapRow s.claim o.A.toNat) (hs : o.kind ≠ 2 → o.kind ≠ 9 → s'.claim = s.claim) (h22 : o.kind ≠ 2 → code ≠ 22) (hb16 : ∀ t r, s.claim t r ≤ 16 ∧ s.held t r ≤ 16) (hck : CK s s' ans bB bA qv qv' ov l) (st : S0 w0 l w) :
    Calls Tryz.prog 65 #[.agg (stepL o bB bA code task ov).toArray] w (Ret fun v w' => v = .bool true ∧ S0 w0 l w') := by
  obtain ⟨XO, ho, hXO⟩ := hck.a
  obtain ⟨a, c, b, rfl, hc1, hc2, ha, hcell⟩ := ho.form
  obtain ⟨fs, hfs⟩ : ∃ fs : Nat → Value, fs = nth (stepL o bB bA code task (.slice a ans.length c)) := ⟨_, rfl⟩
  have f0 : fs 0 = .int .u8 (o.kind : Nat) := by rw [hfs]; rfl
  have f1 : fs 1 = .int .i64 o.A := by rw [hfs]; rfl
  have f2 : fs 2 = .int .i64 o.B := by rw [hfs]; rfl
  have f3 : fs 3 = .int .i64 o.C := by rw [hfs]; rfl
  have f4 : fs 4 = .int .u64 (o.X : Nat) := by rw [hfs]; rfl
  have f5 : fs 5 = .pointer (some ⟨bB, 0, none⟩) := by rw [hfs]; rfl
  have f6 : fs 6 = .pointer (some ⟨bA, 0, none⟩) := by rw [hfs]; rfl
  have f7 : fs 7 = .int .i64 code := by rw [hfs]; rfl
  have f8 : fs 8 = .int .i64 task := by rw [hfs]; rfl
  have f9 : fs 9 = .slice a ans.length c := by rw [hfs]; rfl
  have hck1 := fun a => hck.c (a := a)
  have hck2 := fun a b => (hck.c (a := a)).c (a := b)
  rcases hF : cfB s o with _ | _
  · skip
    obtain ⟨q21, q22, hcs0⟩ := hnf (.inl hF)
    by_cases hk9 : o.kind = 9
    · skip
      refine enter [.agg (stepL o bB bA code task (.slice a ans.length c)).toArray] Tryz.func65 rfl Tryz.ntmps65 rfl ?_
      show WC _ _ _ 198 [] [(0, .agg (stepL o bB bA code task (.slice a ans.length c)).toArray)] _
      refine WC.seq fun K1001 hK1001 => ?_
      -- region 0
      refine WC.region ?_
      -- R0.0 1 := more.go:55 box
      refine WL.box (m := 10) (vs := stepL o bB bA code task (.slice a ans.length c)) st rfl rfl rfl rfl rfl rfl ?_
      intro b1 w st
      have st : S0 w0 ((b1, Row 36 10 fs) :: l) w := by rw [hfs]; exact st
      -- R0.1 2 := more.go:55 assign
      refine WL.v (by first | exact r_assign (v := .bool _) rfl | exact r_assign rfl) rfl rfl rfl ?_
      refine WL.fin hK1001 (fun _ _ h => h) ?_
      refine WC.seq fun K1002 hK1002 => ?_
      -- region 1
      refine WC.region ?_
      -- R1.0 10 := more.go:56 load
      refine WL.v (by exact r_loadL (vs := stepL o bB bA code task (.slice a ans.length c)) ty_agg36 rfl ⟨(st.c0 (by decide)).trans (congrArg some f0), (st.c0 (by decide)).trans (congrArg some f1), (st.c0 (by decide)).trans (congrArg some f2), (st.c0 (by decide)).trans (congrArg some f3), (st.c0 (by decide)).trans (congrArg some f4), (st.c0 (by decide)).trans (congrArg some f5), (st.c0 (by decide)).trans (congrArg some f6), (st.c0 (by decide)).trans (congrArg some f7), (st.c0 (by decide)).trans (congrArg some f8), (st.c0 (by decide)).trans (congrArg some f9), trivial⟩) rfl rfl rfl ?_
      -- R1.1 11 := more.go:56 call
      refine WL.call (r_call ty_call33 rfl) rfl rfl rfl (callerL_ok (o := o) (List.mem_cons_of_mem _ hck.B) rfl st) ?_
      rintro _ w ⟨rfl, st⟩
      -- R1.2 9 := more.go:56 move
      refine WL.v (by first | exact r_move (v := .tuple _) rfl | exact r_move rfl) rfl rfl rfl ?_
      -- R1.3 12 := more.go:56 extract
      refine WL.v (by first | exact r_extract (v := .int _ _) rfl rfl | exact r_extract rfl rfl) rfl rfl rfl ?_
      -- R1.4 13 := more.go:56 extract
      refine WL.v (by first | exact r_extract (v := .bool _) rfl rfl | exact r_extract rfl rfl) rfl rfl rfl ?_
      -- R1.5 3 := more.go:56 assign
      refine WL.v (by first | exact r_assign (v := .int _ _) rfl | exact r_assign rfl) rfl rfl rfl ?_
      -- R1.6 4 := more.go:56 assign
      refine WL.v (by first | exact r_assign (v := .bool _) rfl | exact r_assign rfl) rfl rfl rfl ?_
      refine WL.fin hK1002 (fun _ _ h => h) ?_
      refine WC.seq fun K1003 hK1003 => ?_
      refine WC.seq fun K1004 hK1004 => ?_
      -- region 2
      refine WC.region ?_
      -- R2.0 14 := more.go:57 move
      refine WL.v (by exact r_move (v := .bool false) (congrArg Value.bool hF)) rfl rfl rfl ?_
      -- R2.1 15 := more.go:57 unOp
      refine WL.v (by first | exact r_notT rfl | exact r_notF rfl | exact r_not rfl) rfl rfl rfl ?_
      -- R2.2 16 := more.go:57 move
      refine WL.v (by first | exact r_move (v := .bool _) rfl | exact r_move rfl) rfl rfl rfl ?_
      -- R2.3 17 := more.go:57 fieldAddr
      refine WL.no rfl rfl ?_
      -- R2.4 18 := more.go:57 fieldAddr
      refine WL.no rfl rfl ?_
      -- R2.5 19 := more.go:57 load
      refine WL.no rfl rfl ?_
      -- R2.6 20 := more.go:57 call
      refine WL.no rfl rfl ?_
      -- R2.7 21 := more.go:57 unOp
      refine WL.no rfl rfl ?_
      -- R2.8 22 := more.go:57 pick
      refine WL.v (by first | exact r_pickT (v := .bool _) rfl rfl | exact r_pickF (v := .bool _) rfl rfl) rfl rfl rfl ?_
      refine WL.fin hK1004 (fun _ _ h => h) ?_
      refine WC.condT rfl rfl ?_
      refine WC.seq fun K1005 hK1005 => ?_
      -- region 3 (draws)
      refine WC.quietS st ty_mixed (by kernel_rfl) fun Kq hKq => ?_
      -- R3.0 23 := more.go:58 fieldAddr
      refine QL.v (fun w st => by exact r_field ty_fld36_3 rfl) rfl rfl rfl ?_
      -- R3.1 24 := more.go:58 fieldAddr
      refine QL.v (fun w st => by exact r_field ty_fld34_0 rfl) rfl rfl rfl ?_
      -- R3.2 25 := more.go:58 load
      refine QL.v (fun w st => by exact r_load1 (v := .int .i64 code) ty_one30 rfl (by rw [← f7]; exact st.c0 (by decide))) rfl rfl rfl ?_
      -- R3.3 26 := more.go:58 binOp
      refine QL.v (fun w st => by exact r_neq rfl rfl (decide_eq_true q21)) rfl rfl rfl ?_
      -- R3.4 27 := more.go:58 move
      refine QL.v (fun w st => by first | exact r_move (v := .bool _) rfl | exact r_move rfl) rfl rfl rfl ?_
      -- R3.5 28 := more.go:58 fieldAddr
      refine QL.v (fun w st => by exact r_field ty_fld36_3 rfl) rfl rfl rfl ?_
      -- R3.6 29 := more.go:58 fieldAddr
      refine QL.v (fun w st => by exact r_field ty_fld34_0 rfl) rfl rfl rfl ?_
      -- R3.7 30 := more.go:58 load
      refine QL.v (fun w st => by exact r_load1 (v := .int .i64 code) ty_one30 rfl (by rw [← f7]; exact st.c0 (by decide))) rfl rfl rfl ?_
      -- R3.8 31 := more.go:58 binOp
      refine QL.v (fun w st => by exact r_neq rfl rfl (decide_eq_true q22)) rfl rfl rfl ?_
      -- R3.9 32 := more.go:58 pick
      refine QL.v (fun w st => by first | exact r_pickT (v := .bool _) rfl rfl | exact r_pickF (v := .bool _) rfl rfl) rfl rfl rfl ?_
      -- R3.10 33 := more.go:58 move
      refine QL.v (fun w st => by first | exact r_move (v := .bool _) rfl | exact r_move rfl) rfl rfl rfl ?_
      -- R3.11 34 := more.go:58 fieldAddr
      refine QL.v (fun w st => by exact r_field ty_fld36_0 rfl) rfl rfl rfl ?_
      -- R3.12 35 := more.go:58 fieldAddr
      refine QL.v (fun w st => by exact r_field ty_fld28_0 rfl) rfl rfl rfl ?_
      -- R3.13 36 := more.go:58 load
      refine QL.v (fun w st => by exact r_load1 (v := .int .u8 (o.kind : Nat)) ty_one25 rfl (by rw [← f0]; exact st.c0 (by decide))) rfl rfl rfl ?_
      -- R3.14 37 := more.go:58 binOp
      refine QL.v (fun w st => by first | exact r_eql rfl rfl (decide_eq_true (by omega)) | exact r_eql rfl rfl (decide_eq_false (by omega)) | exact r_eql rfl rfl rfl) rfl rfl rfl ?_
      -- R3.15 38 := more.go:58 move
      refine QL.v (fun w st => by first | exact r_move (v := .bool _) rfl | exact r_move rfl) rfl rfl rfl ?_
      -- R3.16 39 := more.go:58 fieldAddr
      refine QL.no rfl rfl ?_
      -- R3.17 40 := more.go:58 load
      refine QL.no rfl rfl ?_
      -- R3.18 41 := more.go:58 nilCheck
      refine QL.no rfl rfl ?_
      -- R3.19 42 := more.go:58 fieldAddr
      refine QL.no rfl rfl ?_
      -- R3.20 43 := more.go:58 load
      refine QL.no rfl rfl ?_
      -- R3.21 44 := more.go:58 fieldAddr
      refine QL.no rfl rfl ?_
      -- R3.22 45 := more.go:58 load
      refine QL.no rfl rfl ?_
      -- R3.23 46 := more.go:58 nilCheck
      refine QL.no rfl rfl ?_
      -- R3.24 47 := more.go:58 fieldAddr
      refine QL.no rfl rfl ?_
      -- R3.25 48 := more.go:58 load
      refine QL.no rfl rfl ?_
      -- R3.26 49 := more.go:58 binOp
      refine QL.no rfl rfl ?_
      -- R3.27 50 := more.go:58 pick
      refine QL.v (fun w st => by first | exact r_pickT (v := .bool _) rfl rfl | exact r_pickF (v := .bool _) rfl rfl) rfl rfl rfl ?_
      -- R3.28 51 := more.go:58 pick
      refine QL.v (fun w st => by first | exact r_pickT (v := .bool _) rfl rfl | exact r_pickF (v := .bool _) rfl rfl) rfl rfl rfl ?_
      -- R3.29 2 := more.go:58 assign
      refine QL.v (fun w st => by first | exact r_assign (v := .bool _) rfl | exact r_assign rfl) rfl rfl rfl ?_
      refine QL.wl hKq fun w st => ?_
      refine WL.fin hK1005 (fun _ _ h => h) ?_
      refine WC.ret1 Tryz.results65 (fun _ _ h => h) rfl ?_
      exact ⟨_, rfl, rfl, st.drop⟩
    · have hcs := hcs0 hk9
      refine enter [.agg (stepL o bB bA code task (.slice a ans.length c)).toArray] Tryz.func65 rfl Tryz.ntmps65 rfl ?_
      show WC _ _ _ 198 [] [(0, .agg (stepL o bB bA code task (.slice a ans.length c)).toArray)] _
      refine WC.seq fun K1006 hK1006 => ?_
      -- region 0
      refine WC.region ?_
      -- R0.0 1 := more.go:55 box
      refine WL.box (m := 10) (vs := stepL o bB bA code task (.slice a ans.length c)) st rfl rfl rfl rfl rfl rfl ?_
      intro b1 w st
      have st : S0 w0 ((b1, Row 36 10 fs) :: l) w := by rw [hfs]; exact st
      -- R0.1 2 := more.go:55 assign
      refine WL.v (by first | exact r_assign (v := .bool _) rfl | exact r_assign rfl) rfl rfl rfl ?_
      refine WL.fin hK1006 (fun _ _ h => h) ?_
      refine WC.seq fun K1007 hK1007 => ?_
      -- region 1
      refine WC.region ?_
      -- R1.0 10 := more.go:56 load
      refine WL.v (by exact r_loadL (vs := stepL o bB bA code task (.slice a ans.length c)) ty_agg36 rfl ⟨(st.c0 (by decide)).trans (congrArg some f0), (st.c0 (by decide)).trans (congrArg some f1), (st.c0 (by decide)).trans (congrArg some f2), (st.c0 (by decide)).trans (congrArg some f3), (st.c0 (by decide)).trans (congrArg some f4), (st.c0 (by decide)).trans (congrArg some f5), (st.c0 (by decide)).trans (congrArg some f6), (st.c0 (by decide)).trans (congrArg some f7), (st.c0 (by decide)).trans (congrArg some f8), (st.c0 (by decide)).trans (congrArg some f9), trivial⟩) rfl rfl rfl ?_
      -- R1.1 11 := more.go:56 call
      refine WL.call (r_call ty_call33 rfl) rfl rfl rfl (callerL_ok (o := o) (List.mem_cons_of_mem _ hck.B) rfl st) ?_
      rintro _ w ⟨rfl, st⟩
      -- R1.2 9 := more.go:56 move
      refine WL.v (by first | exact r_move (v := .tuple _) rfl | exact r_move rfl) rfl rfl rfl ?_
      -- R1.3 12 := more.go:56 extract
      refine WL.v (by first | exact r_extract (v := .int _ _) rfl rfl | exact r_extract rfl rfl) rfl rfl rfl ?_
      -- R1.4 13 := more.go:56 extract
      refine WL.v (by first | exact r_extract (v := .bool _) rfl rfl | exact r_extract rfl rfl) rfl rfl rfl ?_
      -- R1.5 3 := more.go:56 assign
      refine WL.v (by first | exact r_assign (v := .int _ _) rfl | exact r_assign rfl) rfl rfl rfl ?_
      -- R1.6 4 := more.go:56 assign
      refine WL.v (by first | exact r_assign (v := .bool _) rfl | exact r_assign rfl) rfl rfl rfl ?_
      refine WL.fin hK1007 (fun _ _ h => h) ?_
      refine WC.seq fun K1008 hK1008 => ?_
      refine WC.seq fun K1009 hK1009 => ?_
      -- region 2
      refine WC.region ?_
      -- R2.0 14 := more.go:57 move
      refine WL.v (by exact r_move (v := .bool false) (congrArg Value.bool hF)) rfl rfl rfl ?_
      -- R2.1 15 := more.go:57 unOp
      refine WL.v (by first | exact r_notT rfl | exact r_notF rfl | exact r_not rfl) rfl rfl rfl ?_
      -- R2.2 16 := more.go:57 move
      refine WL.v (by first | exact r_move (v := .bool _) rfl | exact r_move rfl) rfl rfl rfl ?_
      -- R2.3 17 := more.go:57 fieldAddr
      refine WL.no rfl rfl ?_
      -- R2.4 18 := more.go:57 fieldAddr
      refine WL.no rfl rfl ?_
      -- R2.5 19 := more.go:57 load
      refine WL.no rfl rfl ?_
      -- R2.6 20 := more.go:57 call
      refine WL.no rfl rfl ?_
      -- R2.7 21 := more.go:57 unOp
      refine WL.no rfl rfl ?_
      -- R2.8 22 := more.go:57 pick
      refine WL.v (by first | exact r_pickT (v := .bool _) rfl rfl | exact r_pickF (v := .bool _) rfl rfl) rfl rfl rfl ?_
      refine WL.fin hK1009 (fun _ _ h => h) ?_
      refine WC.condT rfl rfl ?_
      refine WC.seq fun K1010 hK1010 => ?_
      -- region 3 (draws)
      refine WC.quietS st ty_mixed (by kernel_rfl) fun Kq hKq => ?_
      -- R3.0 23 := more.go:58 fieldAddr
      refine QL.v (fun w st => by exact r_field ty_fld36_3 rfl) rfl rfl rfl ?_
      -- R3.1 24 := more.go:58 fieldAddr
      refine QL.v (fun w st => by exact r_field ty_fld34_0 rfl) rfl rfl rfl ?_
      -- R3.2 25 := more.go:58 load
      refine QL.v (fun w st => by exact r_load1 (v := .int .i64 code) ty_one30 rfl (by rw [← f7]; exact st.c0 (by decide))) rfl rfl rfl ?_
      -- R3.3 26 := more.go:58 binOp
      refine QL.v (fun w st => by exact r_neq rfl rfl (decide_eq_true q21)) rfl rfl rfl ?_
      -- R3.4 27 := more.go:58 move
      refine QL.v (fun w st => by first | exact r_move (v := .bool _) rfl | exact r_move rfl) rfl rfl rfl ?_
      -- R3.5 28 := more.go:58 fieldAddr
      refine QL.v (fun w st => by exact r_field ty_fld36_3 rfl) rfl rfl rfl ?_
      -- R3.6 29 := more.go:58 fieldAddr
      refine QL.v (fun w st => by exact r_field ty_fld34_0 rfl) rfl rfl rfl ?_
      -- R3.7 30 := more.go:58 load
      refine QL.v (fun w st => by exact r_load1 (v := .int .i64 code) ty_one30 rfl (by rw [← f7]; exact st.c0 (by decide))) rfl rfl rfl ?_
      -- R3.8 31 := more.go:58 binOp
      refine QL.v (fun w st => by exact r_neq rfl rfl (decide_eq_true q22)) rfl rfl rfl ?_
      -- R3.9 32 := more.go:58 pick
      refine QL.v (fun w st => by first | exact r_pickT (v := .bool _) rfl rfl | exact r_pickF (v := .bool _) rfl rfl) rfl rfl rfl ?_
      -- R3.10 33 := more.go:58 move
      refine QL.v (fun w st => by first | exact r_move (v := .bool _) rfl | exact r_move rfl) rfl rfl rfl ?_
      -- R3.11 34 := more.go:58 fieldAddr
      refine QL.v (fun w st => by exact r_field ty_fld36_0 rfl) rfl rfl rfl ?_
      -- R3.12 35 := more.go:58 fieldAddr
      refine QL.v (fun w st => by exact r_field ty_fld28_0 rfl) rfl rfl rfl ?_
      -- R3.13 36 := more.go:58 load
      refine QL.v (fun w st => by exact r_load1 (v := .int .u8 (o.kind : Nat)) ty_one25 rfl (by rw [← f0]; exact st.c0 (by decide))) rfl rfl rfl ?_
      -- R3.14 37 := more.go:58 binOp
      refine QL.v (fun w st => by first | exact r_eql rfl rfl (decide_eq_true (by omega)) | exact r_eql rfl rfl (decide_eq_false (by omega)) | exact r_eql rfl rfl rfl) rfl rfl rfl ?_
      -- R3.15 38 := more.go:58 move
      refine QL.v (fun w st => by first | exact r_move (v := .bool _) rfl | exact r_move rfl) rfl rfl rfl ?_
      -- R3.16 39 := more.go:58 fieldAddr
      refine QL.v (fun w st => by exact r_field ty_fld36_2 rfl) rfl rfl rfl ?_
      -- R3.17 40 := more.go:58 load
      refine QL.v (fun w st => by exact r_load1 (v := .pointer (some ⟨bA, 0, none⟩)) ty_one29 rfl (by rw [← f6]; exact st.c0 (by decide))) rfl rfl rfl ?_
      -- R3.18 41 := more.go:58 nilCheck
      refine QL.v (fun w st => by exact r_nilCheck rfl) rfl rfl rfl ?_
      -- R3.19 42 := more.go:58 fieldAddr
      refine QL.v (fun w st => by exact r_field ty_fld50_5 rfl) rfl rfl rfl ?_
      -- R3.20 43 := more.go:58 load
      refine QL.v (fun w st => by exact r_loadN (f := hM s'.claim) ty_agg45 rfl (fun k hk => c_s (hck1 _).A (by omega) (by rw [show 0 + 419 + k = 419 + k by omega]; exact sF_c hk) st)) rfl rfl rfl ?_
      -- R3.21 44 := more.go:58 fieldAddr
      refine QL.v (fun w st => by exact r_field ty_fld36_1 rfl) rfl rfl rfl ?_
      -- R3.22 45 := more.go:58 load
      refine QL.v (fun w st => by exact r_load1 (v := .pointer (some ⟨bB, 0, none⟩)) ty_one29 rfl (by rw [← f5]; exact st.c0 (by decide))) rfl rfl rfl ?_
      -- R3.23 46 := more.go:58 nilCheck
      refine QL.v (fun w st => by exact r_nilCheck rfl) rfl rfl rfl ?_
      -- R3.24 47 := more.go:58 fieldAddr
      refine QL.v (fun w st => by exact r_field ty_fld50_5 rfl) rfl rfl rfl ?_
      -- R3.25 48 := more.go:58 load
      refine QL.v (fun w st => by exact r_loadN (f := hM s.claim) ty_agg45 rfl (fun k hk => c_s (hck1 _).B (by omega) (by rw [show 0 + 419 + k = 419 + k by omega]; exact sF_c hk) st)) rfl rfl rfl ?_
      -- R3.26 49 := more.go:58 binOp
      refine QL.v (fun w st => by exact r_aeql (n := 320) (F := hM s'.claim) (G := hM s.claim) (t := true) eqHA List.length_replicate rfl rfl hM_fit ⟨fun _ i hi => by rw [hcs], fun _ => rfl⟩) rfl rfl rfl ?_
      -- R3.27 50 := more.go:58 pick
      refine QL.v (fun w st => by first | exact r_pickT (v := .bool _) rfl rfl | exact r_pickF (v := .bool _) rfl rfl) rfl rfl rfl ?_
      -- R3.28 51 := more.go:58 pick
      refine QL.v (fun w st => by first | exact r_pickT (v := .bool _) rfl rfl | exact r_pickF (v := .bool _) rfl rfl) rfl rfl rfl ?_
      -- R3.29 2 := more.go:58 assign
      refine QL.v (fun w st => by first | exact r_assign (v := .bool _) rfl | exact r_assign rfl) rfl rfl rfl ?_
      refine QL.wl hKq fun w st => ?_
      refine WL.fin hK1010 (fun _ _ h => h) ?_
      refine WC.ret1 Tryz.results65 (fun _ _ h => h) rfl ?_
      exact ⟨_, rfl, rfl, st.drop⟩
  by_cases hb : 0 ≤ o.B ∧ o.B < 20
  rotate_left
  · skip

    obtain ⟨q21, q22, hcs0⟩ := hnf (.inr hb)
    by_cases hk9 : o.kind = 9
    · skip
      refine enter [.agg (stepL o bB bA code task (.slice a ans.length c)).toArray] Tryz.func65 rfl Tryz.ntmps65 rfl ?_
      show WC _ _ _ 198 [] [(0, .agg (stepL o bB bA code task (.slice a ans.length c)).toArray)] _
      refine WC.seq fun K1011 hK1011 => ?_
      -- region 0
      refine WC.region ?_
      -- R0.0 1 := more.go:55 box
      refine WL.box (m := 10) (vs := stepL o bB bA code task (.slice a ans.length c)) st rfl rfl rfl rfl rfl rfl ?_
      intro b1 w st
      have st : S0 w0 ((b1, Row 36 10 fs) :: l) w := by rw [hfs]; exact st
      -- R0.1 2 := more.go:55 assign
      refine WL.v (by first | exact r_assign (v := .bool _) rfl | exact r_assign rfl) rfl rfl rfl ?_
      refine WL.fin hK1011 (fun _ _ h => h) ?_
      refine WC.seq fun K1012 hK1012 => ?_
      -- region 1
      refine WC.region ?_
      -- R1.0 10 := more.go:56 load
      refine WL.v (by exact r_loadL (vs := stepL o bB bA code task (.slice a ans.length c)) ty_agg36 rfl ⟨(st.c0 (by decide)).trans (congrArg some f0), (st.c0 (by decide)).trans (congrArg some f1), (st.c0 (by decide)).trans (congrArg some f2), (st.c0 (by decide)).trans (congrArg some f3), (st.c0 (by decide)).trans (congrArg some f4), (st.c0 (by decide)).trans (congrArg some f5), (st.c0 (by decide)).trans (congrArg some f6), (st.c0 (by decide)).trans (congrArg some f7), (st.c0 (by decide)).trans (congrArg some f8), (st.c0 (by decide)).trans (congrArg some f9), trivial⟩) rfl rfl rfl ?_
      -- R1.1 11 := more.go:56 call
      refine WL.call (r_call ty_call33 rfl) rfl rfl rfl (callerL_ok (o := o) (List.mem_cons_of_mem _ hck.B) rfl st) ?_
      rintro _ w ⟨rfl, st⟩
      -- R1.2 9 := more.go:56 move
      refine WL.v (by first | exact r_move (v := .tuple _) rfl | exact r_move rfl) rfl rfl rfl ?_
      -- R1.3 12 := more.go:56 extract
      refine WL.v (by first | exact r_extract (v := .int _ _) rfl rfl | exact r_extract rfl rfl) rfl rfl rfl ?_
      -- R1.4 13 := more.go:56 extract
      refine WL.v (by first | exact r_extract (v := .bool _) rfl rfl | exact r_extract rfl rfl) rfl rfl rfl ?_
      -- R1.5 3 := more.go:56 assign
      refine WL.v (by first | exact r_assign (v := .int _ _) rfl | exact r_assign rfl) rfl rfl rfl ?_
      -- R1.6 4 := more.go:56 assign
      refine WL.v (by first | exact r_assign (v := .bool _) rfl | exact r_assign rfl) rfl rfl rfl ?_
      refine WL.fin hK1012 (fun _ _ h => h) ?_
      refine WC.seq fun K1013 hK1013 => ?_
      refine WC.seq fun K1014 hK1014 => ?_
      -- region 2
      refine WC.region ?_
      -- R2.0 14 := more.go:57 move
      refine WL.v (by exact r_move (v := .bool true) (congrArg Value.bool hF)) rfl rfl rfl ?_
      -- R2.1 15 := more.go:57 unOp
      refine WL.v (by first | exact r_notT rfl | exact r_notF rfl | exact r_not rfl) rfl rfl rfl ?_
      -- R2.2 16 := more.go:57 move
      refine WL.v (by first | exact r_move (v := .bool _) rfl | exact r_move rfl) rfl rfl rfl ?_
      -- R2.3 17 := more.go:57 fieldAddr
      refine WL.v (by exact r_field ty_fld36_0 rfl) rfl rfl rfl ?_
      -- R2.4 18 := more.go:57 fieldAddr
      refine WL.v (by exact r_field ty_fld28_2 rfl) rfl rfl rfl ?_
      -- R2.5 19 := more.go:57 load
      refine WL.v (by exact r_load1 (v := .int .i64 o.B) ty_one2 rfl (by rw [← f2]; exact st.c0 (by decide))) rfl rfl rfl ?_
      -- R2.6 20 := more.go:57 call
      refine WL.call (r_call ty_call34 rfl) rfl rfl rfl (within_ok (v := o.B) (n := 20) st) ?_
      rintro _ w ⟨he, st⟩
      have he : _ = Value.bool false := he.trans (by unfold wiP; rw [decide_eq_false hb])
      subst he
      -- R2.7 21 := more.go:57 unOp
      refine WL.v (by first | exact r_notT rfl | exact r_notF rfl | exact r_not rfl) rfl rfl rfl ?_
      -- R2.8 22 := more.go:57 pick
      refine WL.v (by first | exact r_pickT (v := .bool _) rfl rfl | exact r_pickF (v := .bool _) rfl rfl) rfl rfl rfl ?_
      refine WL.fin hK1014 (fun _ _ h => h) ?_
      refine WC.condT rfl rfl ?_
      refine WC.seq fun K1015 hK1015 => ?_
      -- region 3 (draws)
      refine WC.quietS st ty_mixed (by kernel_rfl) fun Kq hKq => ?_
      -- R3.0 23 := more.go:58 fieldAddr
      refine QL.v (fun w st => by exact r_field ty_fld36_3 rfl) rfl rfl rfl ?_
      -- R3.1 24 := more.go:58 fieldAddr
      refine QL.v (fun w st => by exact r_field ty_fld34_0 rfl) rfl rfl rfl ?_
      -- R3.2 25 := more.go:58 load
      refine QL.v (fun w st => by exact r_load1 (v := .int .i64 code) ty_one30 rfl (by rw [← f7]; exact st.c0 (by decide))) rfl rfl rfl ?_
      -- R3.3 26 := more.go:58 binOp
      refine QL.v (fun w st => by exact r_neq rfl rfl (decide_eq_true q21)) rfl rfl rfl ?_
      -- R3.4 27 := more.go:58 move
      refine QL.v (fun w st => by first | exact r_move (v := .bool _) rfl | exact r_move rfl) rfl rfl rfl ?_
      -- R3.5 28 := more.go:58 fieldAddr
      refine QL.v (fun w st => by exact r_field ty_fld36_3 rfl) rfl rfl rfl ?_
      -- R3.6 29 := more.go:58 fieldAddr
      refine QL.v (fun w st => by exact r_field ty_fld34_0 rfl) rfl rfl rfl ?_
      -- R3.7 30 := more.go:58 load
      refine QL.v (fun w st => by exact r_load1 (v := .int .i64 code) ty_one30 rfl (by rw [← f7]; exact st.c0 (by decide))) rfl rfl rfl ?_
      -- R3.8 31 := more.go:58 binOp
      refine QL.v (fun w st => by exact r_neq rfl rfl (decide_eq_true q22)) rfl rfl rfl ?_
      -- R3.9 32 := more.go:58 pick
      refine QL.v (fun w st => by first | exact r_pickT (v := .bool _) rfl rfl | exact r_pickF (v := .bool _) rfl rfl) rfl rfl rfl ?_
      -- R3.10 33 := more.go:58 move
      refine QL.v (fun w st => by first | exact r_move (v := .bool _) rfl | exact r_move rfl) rfl rfl rfl ?_
      -- R3.11 34 := more.go:58 fieldAddr
      refine QL.v (fun w st => by exact r_field ty_fld36_0 rfl) rfl rfl rfl ?_
      -- R3.12 35 := more.go:58 fieldAddr
      refine QL.v (fun w st => by exact r_field ty_fld28_0 rfl) rfl rfl rfl ?_
      -- R3.13 36 := more.go:58 load
      refine QL.v (fun w st => by exact r_load1 (v := .int .u8 (o.kind : Nat)) ty_one25 rfl (by rw [← f0]; exact st.c0 (by decide))) rfl rfl rfl ?_
      -- R3.14 37 := more.go:58 binOp
      refine QL.v (fun w st => by first | exact r_eql rfl rfl (decide_eq_true (by omega)) | exact r_eql rfl rfl (decide_eq_false (by omega)) | exact r_eql rfl rfl rfl) rfl rfl rfl ?_
      -- R3.15 38 := more.go:58 move
      refine QL.v (fun w st => by first | exact r_move (v := .bool _) rfl | exact r_move rfl) rfl rfl rfl ?_
      -- R3.16 39 := more.go:58 fieldAddr
      refine QL.no rfl rfl ?_
      -- R3.17 40 := more.go:58 load
      refine QL.no rfl rfl ?_
      -- R3.18 41 := more.go:58 nilCheck
      refine QL.no rfl rfl ?_
      -- R3.19 42 := more.go:58 fieldAddr
      refine QL.no rfl rfl ?_
      -- R3.20 43 := more.go:58 load
      refine QL.no rfl rfl ?_
      -- R3.21 44 := more.go:58 fieldAddr
      refine QL.no rfl rfl ?_
      -- R3.22 45 := more.go:58 load
      refine QL.no rfl rfl ?_
      -- R3.23 46 := more.go:58 nilCheck
      refine QL.no rfl rfl ?_
      -- R3.24 47 := more.go:58 fieldAddr
      refine QL.no rfl rfl ?_
      -- R3.25 48 := more.go:58 load
      refine QL.no rfl rfl ?_
      -- R3.26 49 := more.go:58 binOp
      refine QL.no rfl rfl ?_
      -- R3.27 50 := more.go:58 pick
      refine QL.v (fun w st => by first | exact r_pickT (v := .bool _) rfl rfl | exact r_pickF (v := .bool _) rfl rfl) rfl rfl rfl ?_
      -- R3.28 51 := more.go:58 pick
      refine QL.v (fun w st => by first | exact r_pickT (v := .bool _) rfl rfl | exact r_pickF (v := .bool _) rfl rfl) rfl rfl rfl ?_
      -- R3.29 2 := more.go:58 assign
      refine QL.v (fun w st => by first | exact r_assign (v := .bool _) rfl | exact r_assign rfl) rfl rfl rfl ?_
      refine QL.wl hKq fun w st => ?_
      refine WL.fin hK1015 (fun _ _ h => h) ?_
      refine WC.ret1 Tryz.results65 (fun _ _ h => h) rfl ?_
      exact ⟨_, rfl, rfl, st.drop⟩
    · have hcs := hcs0 hk9
      refine enter [.agg (stepL o bB bA code task (.slice a ans.length c)).toArray] Tryz.func65 rfl Tryz.ntmps65 rfl ?_
      show WC _ _ _ 198 [] [(0, .agg (stepL o bB bA code task (.slice a ans.length c)).toArray)] _
      refine WC.seq fun K1016 hK1016 => ?_
      -- region 0
      refine WC.region ?_
      -- R0.0 1 := more.go:55 box
      refine WL.box (m := 10) (vs := stepL o bB bA code task (.slice a ans.length c)) st rfl rfl rfl rfl rfl rfl ?_
      intro b1 w st
      have st : S0 w0 ((b1, Row 36 10 fs) :: l) w := by rw [hfs]; exact st
      -- R0.1 2 := more.go:55 assign
      refine WL.v (by first | exact r_assign (v := .bool _) rfl | exact r_assign rfl) rfl rfl rfl ?_
      refine WL.fin hK1016 (fun _ _ h => h) ?_
      refine WC.seq fun K1017 hK1017 => ?_
      -- region 1
      refine WC.region ?_
      -- R1.0 10 := more.go:56 load
      refine WL.v (by exact r_loadL (vs := stepL o bB bA code task (.slice a ans.length c)) ty_agg36 rfl ⟨(st.c0 (by decide)).trans (congrArg some f0), (st.c0 (by decide)).trans (congrArg some f1), (st.c0 (by decide)).trans (congrArg some f2), (st.c0 (by decide)).trans (congrArg some f3), (st.c0 (by decide)).trans (congrArg some f4), (st.c0 (by decide)).trans (congrArg some f5), (st.c0 (by decide)).trans (congrArg some f6), (st.c0 (by decide)).trans (congrArg some f7), (st.c0 (by decide)).trans (congrArg some f8), (st.c0 (by decide)).trans (congrArg some f9), trivial⟩) rfl rfl rfl ?_
      -- R1.1 11 := more.go:56 call
      refine WL.call (r_call ty_call33 rfl) rfl rfl rfl (callerL_ok (o := o) (List.mem_cons_of_mem _ hck.B) rfl st) ?_
      rintro _ w ⟨rfl, st⟩
      -- R1.2 9 := more.go:56 move
      refine WL.v (by first | exact r_move (v := .tuple _) rfl | exact r_move rfl) rfl rfl rfl ?_
      -- R1.3 12 := more.go:56 extract
      refine WL.v (by first | exact r_extract (v := .int _ _) rfl rfl | exact r_extract rfl rfl) rfl rfl rfl ?_
      -- R1.4 13 := more.go:56 extract
      refine WL.v (by first | exact r_extract (v := .bool _) rfl rfl | exact r_extract rfl rfl) rfl rfl rfl ?_
      -- R1.5 3 := more.go:56 assign
      refine WL.v (by first | exact r_assign (v := .int _ _) rfl | exact r_assign rfl) rfl rfl rfl ?_
      -- R1.6 4 := more.go:56 assign
      refine WL.v (by first | exact r_assign (v := .bool _) rfl | exact r_assign rfl) rfl rfl rfl ?_
      refine WL.fin hK1017 (fun _ _ h => h) ?_
      refine WC.seq fun K1018 hK1018 => ?_
      refine WC.seq fun K1019 hK1019 => ?_
      -- region 2
      refine WC.region ?_
      -- R2.0 14 := more.go:57 move
      refine WL.v (by exact r_move (v := .bool true) (congrArg Value.bool hF)) rfl rfl rfl ?_
      -- R2.1 15 := more.go:57 unOp
      refine WL.v (by first | exact r_notT rfl | exact r_notF rfl | exact r_not rfl) rfl rfl rfl ?_
      -- R2.2 16 := more.go:57 move
      refine WL.v (by first | exact r_move (v := .bool _) rfl | exact r_move rfl) rfl rfl rfl ?_
      -- R2.3 17 := more.go:57 fieldAddr
      refine WL.v (by exact r_field ty_fld36_0 rfl) rfl rfl rfl ?_
      -- R2.4 18 := more.go:57 fieldAddr
      refine WL.v (by exact r_field ty_fld28_2 rfl) rfl rfl rfl ?_
      -- R2.5 19 := more.go:57 load
      refine WL.v (by exact r_load1 (v := .int .i64 o.B) ty_one2 rfl (by rw [← f2]; exact st.c0 (by decide))) rfl rfl rfl ?_
      -- R2.6 20 := more.go:57 call
      refine WL.call (r_call ty_call34 rfl) rfl rfl rfl (within_ok (v := o.B) (n := 20) st) ?_
      rintro _ w ⟨he, st⟩
      have he : _ = Value.bool false := he.trans (by unfold wiP; rw [decide_eq_false hb])
      subst he
      -- R2.7 21 := more.go:57 unOp
      refine WL.v (by first | exact r_notT rfl | exact r_notF rfl | exact r_not rfl) rfl rfl rfl ?_
      -- R2.8 22 := more.go:57 pick
      refine WL.v (by first | exact r_pickT (v := .bool _) rfl rfl | exact r_pickF (v := .bool _) rfl rfl) rfl rfl rfl ?_
      refine WL.fin hK1019 (fun _ _ h => h) ?_
      refine WC.condT rfl rfl ?_
      refine WC.seq fun K1020 hK1020 => ?_
      -- region 3 (draws)
      refine WC.quietS st ty_mixed (by kernel_rfl) fun Kq hKq => ?_
      -- R3.0 23 := more.go:58 fieldAddr
      refine QL.v (fun w st => by exact r_field ty_fld36_3 rfl) rfl rfl rfl ?_
      -- R3.1 24 := more.go:58 fieldAddr
      refine QL.v (fun w st => by exact r_field ty_fld34_0 rfl) rfl rfl rfl ?_
      -- R3.2 25 := more.go:58 load
      refine QL.v (fun w st => by exact r_load1 (v := .int .i64 code) ty_one30 rfl (by rw [← f7]; exact st.c0 (by decide))) rfl rfl rfl ?_
      -- R3.3 26 := more.go:58 binOp
      refine QL.v (fun w st => by exact r_neq rfl rfl (decide_eq_true q21)) rfl rfl rfl ?_
      -- R3.4 27 := more.go:58 move
      refine QL.v (fun w st => by first | exact r_move (v := .bool _) rfl | exact r_move rfl) rfl rfl rfl ?_
      -- R3.5 28 := more.go:58 fieldAddr
      refine QL.v (fun w st => by exact r_field ty_fld36_3 rfl) rfl rfl rfl ?_
      -- R3.6 29 := more.go:58 fieldAddr
      refine QL.v (fun w st => by exact r_field ty_fld34_0 rfl) rfl rfl rfl ?_
      -- R3.7 30 := more.go:58 load
      refine QL.v (fun w st => by exact r_load1 (v := .int .i64 code) ty_one30 rfl (by rw [← f7]; exact st.c0 (by decide))) rfl rfl rfl ?_
      -- R3.8 31 := more.go:58 binOp
      refine QL.v (fun w st => by exact r_neq rfl rfl (decide_eq_true q22)) rfl rfl rfl ?_
      -- R3.9 32 := more.go:58 pick
      refine QL.v (fun w st => by first | exact r_pickT (v := .bool _) rfl rfl | exact r_pickF (v := .bool _) rfl rfl) rfl rfl rfl ?_
      -- R3.10 33 := more.go:58 move
      refine QL.v (fun w st => by first | exact r_move (v := .bool _) rfl | exact r_move rfl) rfl rfl rfl ?_
      -- R3.11 34 := more.go:58 fieldAddr
      refine QL.v (fun w st => by exact r_field ty_fld36_0 rfl) rfl rfl rfl ?_
      -- R3.12 35 := more.go:58 fieldAddr
      refine QL.v (fun w st => by exact r_field ty_fld28_0 rfl) rfl rfl rfl ?_
      -- R3.13 36 := more.go:58 load
      refine QL.v (fun w st => by exact r_load1 (v := .int .u8 (o.kind : Nat)) ty_one25 rfl (by rw [← f0]; exact st.c0 (by decide))) rfl rfl rfl ?_
      -- R3.14 37 := more.go:58 binOp
      refine QL.v (fun w st => by first | exact r_eql rfl rfl (decide_eq_true (by omega)) | exact r_eql rfl rfl (decide_eq_false (by omega)) | exact r_eql rfl rfl rfl) rfl rfl rfl ?_
      -- R3.15 38 := more.go:58 move
      refine QL.v (fun w st => by first | exact r_move (v := .bool _) rfl | exact r_move rfl) rfl rfl rfl ?_
      -- R3.16 39 := more.go:58 fieldAddr
      refine QL.v (fun w st => by exact r_field ty_fld36_2 rfl) rfl rfl rfl ?_
      -- R3.17 40 := more.go:58 load
      refine QL.v (fun w st => by exact r_load1 (v := .pointer (some ⟨bA, 0, none⟩)) ty_one29 rfl (by rw [← f6]; exact st.c0 (by decide))) rfl rfl rfl ?_
      -- R3.18 41 := more.go:58 nilCheck
      refine QL.v (fun w st => by exact r_nilCheck rfl) rfl rfl rfl ?_
      -- R3.19 42 := more.go:58 fieldAddr
      refine QL.v (fun w st => by exact r_field ty_fld50_5 rfl) rfl rfl rfl ?_
      -- R3.20 43 := more.go:58 load
      refine QL.v (fun w st => by exact r_loadN (f := hM s'.claim) ty_agg45 rfl (fun k hk => c_s (hck1 _).A (by omega) (by rw [show 0 + 419 + k = 419 + k by omega]; exact sF_c hk) st)) rfl rfl rfl ?_
      -- R3.21 44 := more.go:58 fieldAddr
      refine QL.v (fun w st => by exact r_field ty_fld36_1 rfl) rfl rfl rfl ?_
      -- R3.22 45 := more.go:58 load
      refine QL.v (fun w st => by exact r_load1 (v := .pointer (some ⟨bB, 0, none⟩)) ty_one29 rfl (by rw [← f5]; exact st.c0 (by decide))) rfl rfl rfl ?_
      -- R3.23 46 := more.go:58 nilCheck
      refine QL.v (fun w st => by exact r_nilCheck rfl) rfl rfl rfl ?_
      -- R3.24 47 := more.go:58 fieldAddr
      refine QL.v (fun w st => by exact r_field ty_fld50_5 rfl) rfl rfl rfl ?_
      -- R3.25 48 := more.go:58 load
      refine QL.v (fun w st => by exact r_loadN (f := hM s.claim) ty_agg45 rfl (fun k hk => c_s (hck1 _).B (by omega) (by rw [show 0 + 419 + k = 419 + k by omega]; exact sF_c hk) st)) rfl rfl rfl ?_
      -- R3.26 49 := more.go:58 binOp
      refine QL.v (fun w st => by exact r_aeql (n := 320) (F := hM s'.claim) (G := hM s.claim) (t := true) eqHA List.length_replicate rfl rfl hM_fit ⟨fun _ i hi => by rw [hcs], fun _ => rfl⟩) rfl rfl rfl ?_
      -- R3.27 50 := more.go:58 pick
      refine QL.v (fun w st => by first | exact r_pickT (v := .bool _) rfl rfl | exact r_pickF (v := .bool _) rfl rfl) rfl rfl rfl ?_
      -- R3.28 51 := more.go:58 pick
      refine QL.v (fun w st => by first | exact r_pickT (v := .bool _) rfl rfl | exact r_pickF (v := .bool _) rfl rfl) rfl rfl rfl ?_
      -- R3.29 2 := more.go:58 assign
      refine QL.v (fun w st => by first | exact r_assign (v := .bool _) rfl | exact r_assign rfl) rfl rfl rfl ?_
      refine QL.wl hKq fun w st => ?_
      refine WL.fin hK1020 (fun _ _ h => h) ?_
      refine WC.ret1 Tryz.results65 (fun _ _ h => h) rfl ?_
      exact ⟨_, rfl, rfl, st.drop⟩

  obtain ⟨t, ht16, hAt, hT, hl, hwt⟩ := cf_T hF
  obtain ⟨r, hr⟩ : ∃ r : Nat, o.B = r := ⟨o.B.toNat, by omega⟩
  have hr20 : r < 20 := by omega
  have hA' : o.A.toNat = t := by rw [hAt]; rfl
  have hB' : o.B.toNat = r := by rw [hr]; rfl
  rw [hA', hB'] at hd ha'
  rw [hA'] at hx
  have hbtr := hb16 t r
  have htot := totP_le r
  refine enter [.agg (stepL o bB bA code task (.slice a ans.length c)).toArray] Tryz.func65 rfl Tryz.ntmps65 rfl ?_
  show WC _ _ _ 198 [] [(0, .agg (stepL o bB bA code task (.slice a ans.length c)).toArray)] _
  refine WC.seq fun K1021 hK1021 => ?_
  -- region 0
  refine WC.region ?_
  -- R0.0 1 := more.go:55 box
  refine WL.box (m := 10) (vs := stepL o bB bA code task (.slice a ans.length c)) st rfl rfl rfl rfl rfl rfl ?_
  intro b1 w st
  have st : S0 w0 ((b1, Row 36 10 fs) :: l) w := by rw [hfs]; exact st
  -- R0.1 2 := more.go:55 assign
  refine WL.v (by first | exact r_assign (v := .bool _) rfl | exact r_assign rfl) rfl rfl rfl ?_
  refine WL.fin hK1021 (fun _ _ h => h) ?_
  refine WC.seq fun K1022 hK1022 => ?_
  -- region 1
  refine WC.region ?_
  -- R1.0 10 := more.go:56 load
  refine WL.v (by exact r_loadL (vs := stepL o bB bA code task (.slice a ans.length c)) ty_agg36 rfl ⟨(st.c0 (by decide)).trans (congrArg some f0), (st.c0 (by decide)).trans (congrArg some f1), (st.c0 (by decide)).trans (congrArg some f2), (st.c0 (by decide)).trans (congrArg some f3), (st.c0 (by decide)).trans (congrArg some f4), (st.c0 (by decide)).trans (congrArg some f5), (st.c0 (by decide)).trans (congrArg some f6), (st.c0 (by decide)).trans (congrArg some f7), (st.c0 (by decide)).trans (congrArg some f8), (st.c0 (by decide)).trans (congrArg some f9), trivial⟩) rfl rfl rfl ?_
  -- R1.1 11 := more.go:56 call
  refine WL.call (r_call ty_call33 rfl) rfl rfl rfl (callerL_ok (o := o) (List.mem_cons_of_mem _ hck.B) rfl st) ?_
  rintro _ w ⟨rfl, st⟩
  -- R1.2 9 := more.go:56 move
  refine WL.v (by first | exact r_move (v := .tuple _) rfl | exact r_move rfl) rfl rfl rfl ?_
  -- R1.3 12 := more.go:56 extract
  refine WL.v (by first | exact r_extract (v := .int _ _) rfl rfl | exact r_extract rfl rfl) rfl rfl rfl ?_
  -- R1.4 13 := more.go:56 extract
  refine WL.v (by first | exact r_extract (v := .bool _) rfl rfl | exact r_extract rfl rfl) rfl rfl rfl ?_
  -- R1.5 3 := more.go:56 assign
  refine WL.v (by first | exact r_assign (v := .int _ _) rfl | exact r_assign rfl) rfl rfl rfl ?_
  -- R1.6 4 := more.go:56 assign
  refine WL.v (by first | exact r_assign (v := .bool _) rfl | exact r_assign rfl) rfl rfl rfl ?_
  refine WL.fin hK1022 (fun _ _ h => h) ?_
  refine WC.seq fun K1023 hK1023 => ?_
  refine WC.seq fun K1024 hK1024 => ?_
  -- region 2
  refine WC.region ?_
  -- R2.0 14 := more.go:57 move
  refine WL.v (by exact r_move (v := .bool true) (congrArg Value.bool hF)) rfl rfl rfl ?_
  -- R2.1 15 := more.go:57 unOp
  refine WL.v (by first | exact r_notT rfl | exact r_notF rfl | exact r_not rfl) rfl rfl rfl ?_
  -- R2.2 16 := more.go:57 move
  refine WL.v (by first | exact r_move (v := .bool _) rfl | exact r_move rfl) rfl rfl rfl ?_
  -- R2.3 17 := more.go:57 fieldAddr
  refine WL.v (by exact r_field ty_fld36_0 rfl) rfl rfl rfl ?_
  -- R2.4 18 := more.go:57 fieldAddr
  refine WL.v (by exact r_field ty_fld28_2 rfl) rfl rfl rfl ?_
  -- R2.5 19 := more.go:57 load
  refine WL.v (by exact r_load1 (v := .int .i64 o.B) ty_one2 rfl (by rw [← f2]; exact st.c0 (by decide))) rfl rfl rfl ?_
  -- R2.6 20 := more.go:57 call
  refine WL.call (r_call ty_call34 rfl) rfl rfl rfl (within_ok (v := o.B) (n := 20) st) ?_
  rintro _ w ⟨he, st⟩
  have he : _ = Value.bool true := he.trans (by unfold wiP; rw [decide_eq_true hb])
  subst he
  -- R2.7 21 := more.go:57 unOp
  refine WL.v (by first | exact r_notT rfl | exact r_notF rfl | exact r_not rfl) rfl rfl rfl ?_
  -- R2.8 22 := more.go:57 pick
  refine WL.v (by first | exact r_pickT (v := .bool _) rfl rfl | exact r_pickF (v := .bool _) rfl rfl) rfl rfl rfl ?_
  refine WL.fin hK1024 (fun _ _ h => h) ?_
  refine WC.condF rfl rfl ?_
  refine WC.skipF hK1023 (fun _ _ h => h) ?_
  refine WC.seq fun K1025 hK1025 => ?_
  -- region 4
  refine WC.region ?_
  -- R4.0 52 := more.go:60 fieldAddr
  refine WL.v (by exact r_field ty_fld36_0 rfl) rfl rfl rfl ?_
  -- R4.1 53 := more.go:60 fieldAddr
  refine WL.v (by exact r_field ty_fld28_2 rfl) rfl rfl rfl ?_
  -- R4.2 54 := more.go:60 load
  refine WL.v (by exact r_load1 (v := .int .i64 (r : Nat)) ty_one2 rfl (by rw [← hr, ← f2]; exact st.c0 (by decide))) rfl rfl rfl ?_
  -- R4.3 5 := more.go:60 assign
  refine WL.v (by first | exact r_assign (v := .int _ _) rfl | exact r_assign rfl) rfl rfl rfl ?_
  refine WL.fin hK1025 (fun _ _ h => h) ?_
  refine WC.seq fun K1026 hK1026 => ?_
  -- region 5
  refine WC.region ?_
  -- R5.0 55 := more.go:61 fieldAddr
  refine WL.v (by exact r_field ty_fld36_1 rfl) rfl rfl rfl ?_
  -- R5.1 56 := more.go:61 load
  refine WL.v (by exact r_load1 (v := .pointer (some ⟨bB, 0, none⟩)) ty_one29 rfl (by rw [← f5]; exact st.c0 (by decide))) rfl rfl rfl ?_
  -- R5.2 57 := more.go:61 nilCheck
  refine WL.v (by exact r_nilCheck rfl) rfl rfl rfl ?_
  -- R5.3 58 := more.go:61 fieldAddr
  refine WL.v (by exact r_field ty_fld50_5 rfl) rfl rfl rfl ?_
  -- R5.4 59 := more.go:61 load
  refine WL.v (by exact r_loadN (f := hM s.claim) ty_agg45 rfl (fun k hk => c_s (hck1 _).B (by omega) (by rw [show 0 + 419 + k = 419 + k by omega]; exact sF_c hk) st)) rfl rfl rfl ?_
  -- R5.5 6 := more.go:61 alloc
  refine WL.allocN (m := 320) st ty_zeroN45 rfl rfl ?_
  intro b6 w st
  -- R5.6 None := more.go:61 store
  refine WL.storeN (v := hM s.claim) st ty_agg45 rfl rfl (fun _ _ => rfl) (by decide) rfl rfl ?_
  intro w st
  have st : S0 w0 ((b6, Row 45 320 (hM s.claim)) :: (b1, Row 36 10 fs) :: l) w := stE (fun k hk => by rw [upds_eq, if_pos (by omega), Nat.sub_zero]) st
  refine WL.fin hK1026 (fun _ _ h => h) ?_
  by_cases hk2 : o.kind = 2
  · obtain ⟨d1, d2, d3⟩ := hd hk2 hF hb
    by_cases hC : 0 ≤ o.C ∧ o.C < (totP r : Int) + 1
    rotate_left
    · obtain ⟨c21, hss⟩ := d1 hC
      have hss := hss.symm
      subst hss
      refine WC.seq fun K1027 hK1027 => ?_
      refine WC.seq fun K1028 hK1028 => ?_
      -- region 6
      refine WC.region ?_
      -- R6.0 60 := more.go:62 fieldAddr
      refine WL.v (by exact r_field ty_fld36_0 rfl) rfl rfl rfl ?_
      -- R6.1 61 := more.go:62 fieldAddr
      refine WL.v (by exact r_field ty_fld28_0 rfl) rfl rfl rfl ?_
      -- R6.2 62 := more.go:62 load
      refine WL.v (by exact r_load1 (v := .int .u8 (o.kind : Nat)) ty_one25 rfl (by rw [← f0]; exact st.c1 (by decide))) rfl rfl rfl ?_
      refine WL.fin hK1028 (fun _ _ h => h) ?_
      refine WC.block ?_
      refine WC.seq fun K1029 hK1029 => ?_
      -- region 7
      refine WC.region ?_
      -- R7.0 64 := more.go:63 binOp
      refine WL.v (by first | exact r_eql rfl rfl (decide_eq_true (by omega)) | exact r_eql rfl rfl (decide_eq_false (by omega)) | exact r_eql rfl rfl rfl) rfl rfl rfl ?_
      -- R7.1 63 := more.go:63 assign
      refine WL.v (by first | exact r_assign (v := .bool _) rfl | exact r_assign rfl) rfl rfl rfl ?_
      refine WL.fin hK1029 (fun _ _ h => h) ?_
      refine WC.condT rfl rfl ?_
      refine WC.seq fun K1030 hK1030 => ?_
      refine WC.block ?_
      refine WC.seq fun K1031 hK1031 => ?_
      -- region 8 (draws)
      refine WC.quietS st ty_mixed (by kernel_rfl) fun Kq hKq => ?_
      -- R8.0 66 := more.go:65 fieldAddr
      refine QL.v (fun w st => by exact r_field ty_fld36_0 rfl) rfl rfl rfl ?_
      -- R8.1 67 := more.go:65 fieldAddr
      refine QL.v (fun w st => by exact r_field ty_fld28_3 rfl) rfl rfl rfl ?_
      -- R8.2 68 := more.go:65 load
      refine QL.v (fun w st => by exact r_load1 (v := .int .i64 o.C) ty_one2 rfl (by rw [← f3]; exact st.c1 (by decide))) rfl rfl rfl ?_
      -- R8.3 69 := more.go:65 move
      refine QL.v (fun w st => by first | exact r_move (v := .int _ _) rfl | exact r_move rfl) rfl rfl rfl ?_
      -- R8.4 70 := more.go:65 call
      refine QL.call (val := .int .i64 (totP r : Nat)) (fun w st => r_call ty_call58 rfl) rfl rfl rfl (fun w st => total_ok (r := r) st) ?_
      -- R8.5 71 := more.go:65 binOp
      refine QL.v (fun w st => by exact r_add (r := (totP r : Int) + 1) rfl rfl (wi64 (by omega) (by omega))) rfl rfl rfl ?_
      -- R8.6 72 := more.go:65 call
      refine QL.call (val := .bool false) (fun w st => r_call ty_call34 rfl) rfl rfl rfl (fun w st => (within_ok st).mono (by rintro _ _ ⟨v, rfl, rfl, st⟩; exact ⟨_, rfl, by unfold wiP; rw [decide_eq_false hC], st⟩)) ?_
      -- R8.7 73 := more.go:65 unOp
      refine QL.v (fun w st => by first | exact r_notT rfl | exact r_notF rfl | exact r_not rfl) rfl rfl rfl ?_
      -- R8.8 65 := more.go:65 assign
      refine QL.v (fun w st => by first | exact r_assign (v := .bool _) rfl | exact r_assign rfl) rfl rfl rfl ?_
      refine QL.wl hKq fun w st => ?_
      refine WL.fin hK1031 (fun _ _ h => h) ?_
      refine WC.condT rfl rfl ?_
      refine WC.seq fun K1032 hK1032 => ?_
      -- region 9
      refine WC.region ?_
      -- R9.0 74 := more.go:66 fieldAddr
      refine WL.v (by exact r_field ty_fld36_3 rfl) rfl rfl rfl ?_
      -- R9.1 75 := more.go:66 fieldAddr
      refine WL.v (by exact r_field ty_fld34_0 rfl) rfl rfl rfl ?_
      -- R9.2 76 := more.go:66 load
      refine WL.v (by exact r_load1 (v := .int .i64 code) ty_one30 rfl (by rw [← f7]; exact st.c1 (by decide))) rfl rfl rfl ?_
      -- R9.3 77 := more.go:66 binOp
      refine WL.v (by first | exact r_eql rfl rfl (decide_eq_true (by omega)) | exact r_eql rfl rfl (decide_eq_false (by omega)) | exact r_eql rfl rfl rfl) rfl rfl rfl ?_
      -- R9.4 78 := more.go:66 move
      refine WL.v (by first | exact r_move (v := .bool _) rfl | exact r_move rfl) rfl rfl rfl ?_
      -- R9.5 79 := more.go:66 fieldAddr
      refine WL.v (by exact r_field ty_fld36_2 rfl) rfl rfl rfl ?_
      -- R9.6 80 := more.go:66 load
      refine WL.v (by exact r_load1 (v := .pointer (some ⟨bA, 0, none⟩)) ty_one29 rfl (by rw [← f6]; exact st.c1 (by decide))) rfl rfl rfl ?_
      -- R9.7 81 := more.go:66 fieldAddr
      refine WL.v (by exact r_field ty_fld36_1 rfl) rfl rfl rfl ?_
      -- R9.8 82 := more.go:66 load
      refine WL.v (by exact r_load1 (v := .pointer (some ⟨bB, 0, none⟩)) ty_one29 rfl (by rw [← f5]; exact st.c1 (by decide))) rfl rfl rfl ?_
      -- R9.9 83 := more.go:66 call
      refine WL.call (r_call ty_call45 rfl) rfl rfl rfl (stateEq_ok (hck2 _ _).A (hck2 _ _).B (hck2 _ _).q' (hck2 _ _).q st) ?_
      rintro _ w ⟨rfl, st⟩
      -- R9.10 84 := more.go:66 pick
      refine WL.v (by first | exact r_pickT (v := .bool _) rfl rfl | exact r_pickF (v := .bool _) rfl rfl) rfl rfl rfl ?_
      -- R9.11 2 := more.go:66 assign
      refine WL.v (by first | exact r_assign (v := .bool _) rfl | exact r_assign rfl) rfl rfl rfl ?_
      refine WL.fin hK1032 (fun _ _ h => h) ?_
      refine WC.ret1 Tryz.results65 (fun _ _ h => h) rfl ?_
      exact ⟨_, rfl, rfl, st.drop.drop⟩
    by_cases hh : ∀ r, r < 20 → s.held t r = 0
    rotate_left
    · obtain ⟨c22, hss⟩ := d2 hC hh
      have hss := hss.symm
      subst hss
      refine WC.seq fun K1033 hK1033 => ?_
      refine WC.seq fun K1034 hK1034 => ?_
      -- region 6
      refine WC.region ?_
      -- R6.0 60 := more.go:62 fieldAddr
      refine WL.v (by exact r_field ty_fld36_0 rfl) rfl rfl rfl ?_
      -- R6.1 61 := more.go:62 fieldAddr
      refine WL.v (by exact r_field ty_fld28_0 rfl) rfl rfl rfl ?_
      -- R6.2 62 := more.go:62 load
      refine WL.v (by exact r_load1 (v := .int .u8 (o.kind : Nat)) ty_one25 rfl (by rw [← f0]; exact st.c1 (by decide))) rfl rfl rfl ?_
      refine WL.fin hK1034 (fun _ _ h => h) ?_
      refine WC.block ?_
      refine WC.seq fun K1035 hK1035 => ?_
      -- region 7
      refine WC.region ?_
      -- R7.0 64 := more.go:63 binOp
      refine WL.v (by first | exact r_eql rfl rfl (decide_eq_true (by omega)) | exact r_eql rfl rfl (decide_eq_false (by omega)) | exact r_eql rfl rfl rfl) rfl rfl rfl ?_
      -- R7.1 63 := more.go:63 assign
      refine WL.v (by first | exact r_assign (v := .bool _) rfl | exact r_assign rfl) rfl rfl rfl ?_
      refine WL.fin hK1035 (fun _ _ h => h) ?_
      refine WC.condT rfl rfl ?_
      refine WC.seq fun K1036 hK1036 => ?_
      refine WC.block ?_
      refine WC.seq fun K1037 hK1037 => ?_
      -- region 8 (draws)
      refine WC.quietS st ty_mixed (by kernel_rfl) fun Kq hKq => ?_
      -- R8.0 66 := more.go:65 fieldAddr
      refine QL.v (fun w st => by exact r_field ty_fld36_0 rfl) rfl rfl rfl ?_
      -- R8.1 67 := more.go:65 fieldAddr
      refine QL.v (fun w st => by exact r_field ty_fld28_3 rfl) rfl rfl rfl ?_
      -- R8.2 68 := more.go:65 load
      refine QL.v (fun w st => by exact r_load1 (v := .int .i64 o.C) ty_one2 rfl (by rw [← f3]; exact st.c1 (by decide))) rfl rfl rfl ?_
      -- R8.3 69 := more.go:65 move
      refine QL.v (fun w st => by first | exact r_move (v := .int _ _) rfl | exact r_move rfl) rfl rfl rfl ?_
      -- R8.4 70 := more.go:65 call
      refine QL.call (val := .int .i64 (totP r : Nat)) (fun w st => r_call ty_call58 rfl) rfl rfl rfl (fun w st => total_ok (r := r) st) ?_
      -- R8.5 71 := more.go:65 binOp
      refine QL.v (fun w st => by exact r_add (r := (totP r : Int) + 1) rfl rfl (wi64 (by omega) (by omega))) rfl rfl rfl ?_
      -- R8.6 72 := more.go:65 call
      refine QL.call (val := .bool true) (fun w st => r_call ty_call34 rfl) rfl rfl rfl (fun w st => (within_ok st).mono (by rintro _ _ ⟨v, rfl, rfl, st⟩; exact ⟨_, rfl, by unfold wiP; rw [decide_eq_true hC], st⟩)) ?_
      -- R8.7 73 := more.go:65 unOp
      refine QL.v (fun w st => by first | exact r_notT rfl | exact r_notF rfl | exact r_not rfl) rfl rfl rfl ?_
      -- R8.8 65 := more.go:65 assign
      refine QL.v (fun w st => by first | exact r_assign (v := .bool _) rfl | exact r_assign rfl) rfl rfl rfl ?_
      refine QL.wl hKq fun w st => ?_
      refine WL.fin hK1037 (fun _ _ h => h) ?_
      refine WC.condF rfl rfl ?_
      refine WC.seq fun K1038 hK1038 => ?_
      -- region 10
      refine WC.region ?_
      -- R10.0 86 := more.go:67 fieldAddr
      refine WL.v (by exact r_field ty_fld36_1 rfl) rfl rfl rfl ?_
      -- R10.1 87 := more.go:67 load
      refine WL.v (by exact r_load1 (v := .pointer (some ⟨bB, 0, none⟩)) ty_one29 rfl (by rw [← f5]; exact st.c1 (by decide))) rfl rfl rfl ?_
      -- R10.2 88 := more.go:67 move
      refine WL.v (by exact r_move (v := .int .i64 (t : Nat)) (congrArg (Value.int .i64) hT)) rfl rfl rfl ?_
      -- R10.3 89 := more.go:67 nilCheck
      refine WL.v (by exact r_nilCheck rfl) rfl rfl rfl ?_
      -- R10.4 90 := more.go:67 fieldAddr
      refine WL.v (by exact r_field ty_fld50_4 rfl) rfl rfl rfl ?_
      -- R10.5 91 := more.go:67 indexAddr
      refine WL.v (by exact r_indexA (j := t) ty_ar45 rfl rfl rfl ht16) rfl rfl rfl ?_
      -- R10.6 92 := more.go:67 load
      refine WL.v (by exact r_loadN (f := (fun r => .int .i64 (s.held t r : Nat))) ty_agg44 rfl (fun k hk => c_sH (hck2 _ _).B ht16 hk (by omega) st)) rfl rfl rfl ?_
      -- R10.7 93 := more.go:67 build
      refine WL.v (by exact r_buildN (n := 20) (z := fun _ => .int .i64 0) (v := fun _ => .int .i64 0) (ps := []) ty_pl44 ty_zeroN44 rfl fill_nil) rfl rfl rfl ?_
      -- R10.8 94 := more.go:67 binOp
      refine WL.v (by exact r_aneq (n := 20) (F := fun r => .int .i64 (s.held t r : Nat)) (G := fun _ => .int .i64 0) (t := true) eqH List.length_replicate rfl rfl (fun i hi => by rw [rep_get hi]; exact KFit.int) ⟨(fun k => by cases k), fun k => absurd (fun r hr => by have := k r hr; injection this with _ h2; omega) hh⟩) rfl rfl rfl ?_
      -- R10.9 85 := more.go:67 assign
      refine WL.v (by first | exact r_assign (v := .bool _) rfl | exact r_assign rfl) rfl rfl rfl ?_
      refine WL.fin hK1038 (fun _ _ h => h) ?_
      refine WC.condT rfl rfl ?_
      refine WC.seq fun K1039 hK1039 => ?_
      -- region 11
      refine WC.region ?_
      -- R11.0 95 := more.go:68 fieldAddr
      refine WL.v (by exact r_field ty_fld36_3 rfl) rfl rfl rfl ?_
      -- R11.1 96 := more.go:68 fieldAddr
      refine WL.v (by exact r_field ty_fld34_0 rfl) rfl rfl rfl ?_
      -- R11.2 97 := more.go:68 load
      refine WL.v (by exact r_load1 (v := .int .i64 code) ty_one30 rfl (by rw [← f7]; exact st.c1 (by decide))) rfl rfl rfl ?_
      -- R11.3 98 := more.go:68 binOp
      refine WL.v (by first | exact r_eql rfl rfl (decide_eq_true (by omega)) | exact r_eql rfl rfl (decide_eq_false (by omega)) | exact r_eql rfl rfl rfl) rfl rfl rfl ?_
      -- R11.4 99 := more.go:68 move
      refine WL.v (by first | exact r_move (v := .bool _) rfl | exact r_move rfl) rfl rfl rfl ?_
      -- R11.5 100 := more.go:68 fieldAddr
      refine WL.v (by exact r_field ty_fld36_2 rfl) rfl rfl rfl ?_
      -- R11.6 101 := more.go:68 load
      refine WL.v (by exact r_load1 (v := .pointer (some ⟨bA, 0, none⟩)) ty_one29 rfl (by rw [← f6]; exact st.c1 (by decide))) rfl rfl rfl ?_
      -- R11.7 102 := more.go:68 fieldAddr
      refine WL.v (by exact r_field ty_fld36_1 rfl) rfl rfl rfl ?_
      -- R11.8 103 := more.go:68 load
      refine WL.v (by exact r_load1 (v := .pointer (some ⟨bB, 0, none⟩)) ty_one29 rfl (by rw [← f5]; exact st.c1 (by decide))) rfl rfl rfl ?_
      -- R11.9 104 := more.go:68 call
      refine WL.call (r_call ty_call45 rfl) rfl rfl rfl (stateEq_ok (hck2 _ _).A (hck2 _ _).B (hck2 _ _).q' (hck2 _ _).q st) ?_
      rintro _ w ⟨rfl, st⟩
      -- R11.10 105 := more.go:68 pick
      refine WL.v (by first | exact r_pickT (v := .bool _) rfl rfl | exact r_pickF (v := .bool _) rfl rfl) rfl rfl rfl ?_
      -- R11.11 2 := more.go:68 assign
      refine WL.v (by first | exact r_assign (v := .bool _) rfl | exact r_assign rfl) rfl rfl rfl ?_
      refine WL.fin hK1039 (fun _ _ h => h) ?_
      refine WC.ret1 Tryz.results65 (fun _ _ h => h) rfl ?_
      exact ⟨_, rfl, rfl, st.drop.drop⟩
    obtain ⟨c0, hcl⟩ := d3 hC hh
    obtain ⟨u, hu⟩ : ∃ u : Nat, o.C = u := ⟨o.C.toNat, by omega⟩
    have hC' : o.C.toNat = u := by rw [hu]; rfl
    rw [hC'] at hcl
    refine WC.seq fun K1040 hK1040 => ?_
    refine WC.seq fun K1041 hK1041 => ?_
    -- region 6
    refine WC.region ?_
    -- R6.0 60 := more.go:62 fieldAddr
    refine WL.v (by exact r_field ty_fld36_0 rfl) rfl rfl rfl ?_
    -- R6.1 61 := more.go:62 fieldAddr
    refine WL.v (by exact r_field ty_fld28_0 rfl) rfl rfl rfl ?_
    -- R6.2 62 := more.go:62 load
    refine WL.v (by exact r_load1 (v := .int .u8 (o.kind : Nat)) ty_one25 rfl (by rw [← f0]; exact st.c1 (by decide))) rfl rfl rfl ?_
    refine WL.fin hK1041 (fun _ _ h => h) ?_
    refine WC.block ?_
    refine WC.seq fun K1042 hK1042 => ?_
    -- region 7
    refine WC.region ?_
    -- R7.0 64 := more.go:63 binOp
    refine WL.v (by first | exact r_eql rfl rfl (decide_eq_true (by omega)) | exact r_eql rfl rfl (decide_eq_false (by omega)) | exact r_eql rfl rfl rfl) rfl rfl rfl ?_
    -- R7.1 63 := more.go:63 assign
    refine WL.v (by first | exact r_assign (v := .bool _) rfl | exact r_assign rfl) rfl rfl rfl ?_
    refine WL.fin hK1042 (fun _ _ h => h) ?_
    refine WC.condT rfl rfl ?_
    refine WC.seq fun K1043 hK1043 => ?_
    refine WC.block ?_
    refine WC.seq fun K1044 hK1044 => ?_
    -- region 8 (draws)
    refine WC.quietS st ty_mixed (by kernel_rfl) fun Kq hKq => ?_
    -- R8.0 66 := more.go:65 fieldAddr
    refine QL.v (fun w st => by exact r_field ty_fld36_0 rfl) rfl rfl rfl ?_
    -- R8.1 67 := more.go:65 fieldAddr
    refine QL.v (fun w st => by exact r_field ty_fld28_3 rfl) rfl rfl rfl ?_
    -- R8.2 68 := more.go:65 load
    refine QL.v (fun w st => by exact r_load1 (v := .int .i64 o.C) ty_one2 rfl (by rw [← f3]; exact st.c1 (by decide))) rfl rfl rfl ?_
    -- R8.3 69 := more.go:65 move
    refine QL.v (fun w st => by first | exact r_move (v := .int _ _) rfl | exact r_move rfl) rfl rfl rfl ?_
    -- R8.4 70 := more.go:65 call
    refine QL.call (val := .int .i64 (totP r : Nat)) (fun w st => r_call ty_call58 rfl) rfl rfl rfl (fun w st => total_ok (r := r) st) ?_
    -- R8.5 71 := more.go:65 binOp
    refine QL.v (fun w st => by exact r_add (r := (totP r : Int) + 1) rfl rfl (wi64 (by omega) (by omega))) rfl rfl rfl ?_
    -- R8.6 72 := more.go:65 call
    refine QL.call (val := .bool true) (fun w st => r_call ty_call34 rfl) rfl rfl rfl (fun w st => (within_ok st).mono (by rintro _ _ ⟨v, rfl, rfl, st⟩; exact ⟨_, rfl, by unfold wiP; rw [decide_eq_true hC], st⟩)) ?_
    -- R8.7 73 := more.go:65 unOp
    refine QL.v (fun w st => by first | exact r_notT rfl | exact r_notF rfl | exact r_not rfl) rfl rfl rfl ?_
    -- R8.8 65 := more.go:65 assign
    refine QL.v (fun w st => by first | exact r_assign (v := .bool _) rfl | exact r_assign rfl) rfl rfl rfl ?_
    refine QL.wl hKq fun w st => ?_
    refine WL.fin hK1044 (fun _ _ h => h) ?_
    refine WC.condF rfl rfl ?_
    refine WC.seq fun K1045 hK1045 => ?_
    -- region 10
    refine WC.region ?_
    -- R10.0 86 := more.go:67 fieldAddr
    refine WL.v (by exact r_field ty_fld36_1 rfl) rfl rfl rfl ?_
    -- R10.1 87 := more.go:67 load
    refine WL.v (by exact r_load1 (v := .pointer (some ⟨bB, 0, none⟩)) ty_one29 rfl (by rw [← f5]; exact st.c1 (by decide))) rfl rfl rfl ?_
    -- R10.2 88 := more.go:67 move
    refine WL.v (by exact r_move (v := .int .i64 (t : Nat)) (congrArg (Value.int .i64) hT)) rfl rfl rfl ?_
    -- R10.3 89 := more.go:67 nilCheck
    refine WL.v (by exact r_nilCheck rfl) rfl rfl rfl ?_
    -- R10.4 90 := more.go:67 fieldAddr
    refine WL.v (by exact r_field ty_fld50_4 rfl) rfl rfl rfl ?_
    -- R10.5 91 := more.go:67 indexAddr
    refine WL.v (by exact r_indexA (j := t) ty_ar45 rfl rfl rfl ht16) rfl rfl rfl ?_
    -- R10.6 92 := more.go:67 load
    refine WL.v (by exact r_loadN (f := (fun r => .int .i64 (s.held t r : Nat))) ty_agg44 rfl (fun k hk => c_sH (hck2 _ _).B ht16 hk (by omega) st)) rfl rfl rfl ?_
    -- R10.7 93 := more.go:67 build
    refine WL.v (by exact r_buildN (n := 20) (z := fun _ => .int .i64 0) (v := fun _ => .int .i64 0) (ps := []) ty_pl44 ty_zeroN44 rfl fill_nil) rfl rfl rfl ?_
    -- R10.8 94 := more.go:67 binOp
    refine WL.v (by exact r_aneq (n := 20) (F := fun r => .int .i64 (s.held t r : Nat)) (G := fun _ => .int .i64 0) (t := false) eqH List.length_replicate rfl rfl (fun i hi => by rw [rep_get hi]; exact KFit.int) ⟨fun _ i hi => by rw [hh i hi]; rfl, fun _ => rfl⟩) rfl rfl rfl ?_
    -- R10.9 85 := more.go:67 assign
    refine WL.v (by first | exact r_assign (v := .bool _) rfl | exact r_assign rfl) rfl rfl rfl ?_
    refine WL.fin hK1045 (fun _ _ h => h) ?_
    refine WC.condF rfl rfl ?_
    refine WC.skipF hK1043 (fun _ _ h => h) ?_
    refine WC.seq fun K1046 hK1046 => ?_
    -- region 12 (draws)
    refine WC.tailS 7 st ty_mixed (by kernel_rfl) fun w st Kq hKq => ?_
    -- R12.0 106 := more.go:70 move
    refine SL.v (by exact r_move (v := .int .i64 (t : Nat)) (congrArg (Value.int .i64) hT)) rfl rfl rfl ?_
    -- R12.1 107 := more.go:70 move
    refine SL.v (by first | exact r_move (v := .int _ _) rfl | exact r_move rfl) rfl rfl rfl ?_
    -- R12.2 108 := more.go:70 fieldAddr
    refine SL.v (by exact r_field ty_fld36_0 rfl) rfl rfl rfl ?_
    -- R12.3 109 := more.go:70 fieldAddr
    refine SL.v (by exact r_field ty_fld28_3 rfl) rfl rfl rfl ?_
    -- R12.4 110 := more.go:70 load
    refine SL.v (by exact r_load1 (v := .int .i64 (u : Nat)) ty_one2 rfl (by rw [← hu, ← f3]; exact st.c1 (by decide))) rfl rfl rfl ?_
    -- R12.5 111 := more.go:70 indexAddr
    refine SL.v (by exact r_indexA (j := t) ty_ar45 rfl rfl rfl ht16) rfl rfl rfl ?_
    -- R12.6 112 := more.go:70 indexAddr
    refine SL.v (by exact r_indexA (j := r) ty_ar44 rfl rfl rfl hr20) rfl rfl rfl ?_
    refine SL.fin hKq ?_
    -- R12.7 None := more.go:70 store
    refine WL.store (v := .int .i64 (u : Nat)) st ty_one3 rfl rfl rfl (by omega) rfl rfl ?_
    intro w st
    have st : S0 w0 ((b6, Row 45 320 (hM (upd2 s.claim t r u))) :: (b1, Row 36 10 fs) :: l) w := stE (hM_setC ht16 hr20) st
    refine WL.fin hK1046 (fun _ _ h => h) ?_
    refine WC.seq fun K1047 hK1047 => ?_
    -- region 13 (draws)
    refine WC.quietS st ty_mixed (by kernel_rfl) fun Kq hKq => ?_
    -- R13.0 113 := more.go:71 fieldAddr
    refine QL.v (fun w st => by exact r_field ty_fld36_3 rfl) rfl rfl rfl ?_
    -- R13.1 114 := more.go:71 fieldAddr
    refine QL.v (fun w st => by exact r_field ty_fld34_0 rfl) rfl rfl rfl ?_
    -- R13.2 115 := more.go:71 load
    refine QL.v (fun w st => by exact r_load1 (v := .int .i64 code) ty_one30 rfl (by rw [← f7]; exact st.c1 (by decide))) rfl rfl rfl ?_
    -- R13.3 116 := more.go:71 binOp
    refine QL.v (fun w st => by exact r_eql rfl rfl (decide_eq_true c0)) rfl rfl rfl ?_
    -- R13.4 117 := more.go:71 move
    refine QL.v (fun w st => by first | exact r_move (v := .bool _) rfl | exact r_move rfl) rfl rfl rfl ?_
    -- R13.5 118 := more.go:71 fieldAddr
    refine QL.v (fun w st => by exact r_field ty_fld36_2 rfl) rfl rfl rfl ?_
    -- R13.6 119 := more.go:71 load
    refine QL.v (fun w st => by exact r_load1 (v := .pointer (some ⟨bA, 0, none⟩)) ty_one29 rfl (by rw [← f6]; exact st.c1 (by decide))) rfl rfl rfl ?_
    -- R13.7 120 := more.go:71 nilCheck
    refine QL.v (fun w st => by exact r_nilCheck rfl) rfl rfl rfl ?_
    -- R13.8 121 := more.go:71 fieldAddr
    refine QL.v (fun w st => by exact r_field ty_fld50_5 rfl) rfl rfl rfl ?_
    -- R13.9 122 := more.go:71 load
    refine QL.v (fun w st => by exact r_loadN (f := hM s'.claim) ty_agg45 rfl (fun k hk => c_s (hck2 _ _).A (by omega) (by rw [show 0 + 419 + k = 419 + k by omega]; exact sF_c hk) st)) rfl rfl rfl ?_
    -- R13.10 123 := more.go:71 load
    refine QL.v (fun w st => by exact r_loadN (f := hM (upd2 s.claim t r u)) ty_agg45 rfl (fun k hk => by rw [Nat.zero_add]; exact st.c0 hk)) rfl rfl rfl ?_
    -- R13.11 124 := more.go:71 binOp
    refine QL.v (fun w st => by exact r_aeql (n := 320) (F := hM s'.claim) (G := hM (upd2 s.claim t r u)) (t := true) eqHA List.length_replicate rfl rfl hM_fit ⟨fun _ i hi => by rw [hcl], fun _ => rfl⟩) rfl rfl rfl ?_
    -- R13.12 125 := more.go:71 pick
    refine QL.v (fun w st => by first | exact r_pickT (v := .bool _) rfl rfl | exact r_pickF (v := .bool _) rfl rfl) rfl rfl rfl ?_
    -- R13.13 2 := more.go:71 assign
    refine QL.v (fun w st => by first | exact r_assign (v := .bool _) rfl | exact r_assign rfl) rfl rfl rfl ?_
    refine QL.wl hKq fun w st => ?_
    refine WL.fin hK1047 (fun _ _ h => h) ?_
    refine WC.ret1 Tryz.results65 (fun _ _ h => h) rfl ?_
    exact ⟨_, rfl, rfl, st.drop.drop⟩
  have q22 := h22 hk2
  refine WC.cut (ι := Unit) (fun _ => [(1, .pointer (some ⟨b1, 0, none⟩)), (6, .pointer (some ⟨b6, 0, none⟩))]) (fun _ w' => S0 w0 ((b6, Row 45 320 (hM s'.claim)) :: (b1, Row 36 10 fs) :: l) w') ?_ ?_
  rotate_left
  · intro KC hKC
    by_cases hk35 : 3 ≤ o.kind ∧ o.kind ≤ 5
    · have hcs := hs hk2 (by omega)
      have ha' := ha' hk35 hF hb
      by_cases hm3 : s.mode = 3
      · skip
        by_cases hnc : (s.claim t r : Int) - s.held t r < o.C
        rotate_left
        · skip
          by_cases h14 : code = 14
          · skip
            rcases (by omega : o.kind = 3 ∨ o.kind = 4 ∨ o.kind = 5) with hk3 | hk4 | hk5
            · skip
              refine WC.seq fun K1048 hK1048 => ?_
              -- region 6
              refine WC.region ?_
              -- R6.0 60 := more.go:62 fieldAddr
              refine WL.v (by exact r_field ty_fld36_0 rfl) rfl rfl rfl ?_
              -- R6.1 61 := more.go:62 fieldAddr
              refine WL.v (by exact r_field ty_fld28_0 rfl) rfl rfl rfl ?_
              -- R6.2 62 := more.go:62 load
              refine WL.v (by exact r_load1 (v := .int .u8 (o.kind : Nat)) ty_one25 rfl (by rw [← f0]; exact st.c1 (by decide))) rfl rfl rfl ?_
              refine WL.fin hK1048 (fun _ _ h => h) ?_
              refine WC.block ?_
              refine WC.seq fun K1049 hK1049 => ?_
              -- region 7
              refine WC.region ?_
              -- R7.0 64 := more.go:63 binOp
              refine WL.v (by first | exact r_eql rfl rfl (decide_eq_true (by omega)) | exact r_eql rfl rfl (decide_eq_false (by omega)) | exact r_eql rfl rfl rfl) rfl rfl rfl ?_
              -- R7.1 63 := more.go:63 assign
              refine WL.v (by first | exact r_assign (v := .bool _) rfl | exact r_assign rfl) rfl rfl rfl ?_
              refine WL.fin hK1049 (fun _ _ h => h) ?_
              refine WC.condF rfl rfl ?_
              refine WC.seq fun K1050 hK1050 => ?_
              refine WC.seq fun K1051 hK1051 => ?_
              -- region 14
              refine WC.region ?_
              -- R14.0 127 := more.go:72 binOp
              refine WL.v (by first | exact r_eql rfl rfl (decide_eq_true (by omega)) | exact r_eql rfl rfl (decide_eq_false (by omega)) | exact r_eql rfl rfl rfl) rfl rfl rfl ?_
              -- R14.1 126 := more.go:72 assign
              refine WL.v (by first | exact r_assign (v := .bool _) rfl | exact r_assign rfl) rfl rfl rfl ?_
              refine WL.fin hK1051 (fun _ _ h => h) ?_
              refine WC.condT rfl rfl ?_
              refine WC.skipF hK1050 (fun _ _ h => h) ?_
              refine WC.condT rfl rfl ?_
              refine WC.seq fun K1052 hK1052 => ?_
              -- region 17 (draws)
              refine WC.quietS st ty_mixed (by kernel_rfl) fun Kq hKq => ?_
              -- R17.0 130 := more.go:73 fieldAddr
              refine QL.v (fun w st => by exact r_field ty_fld36_1 rfl) rfl rfl rfl ?_
              -- R17.1 131 := more.go:73 load
              refine QL.v (fun w st => by exact r_load1 (v := .pointer (some ⟨bB, 0, none⟩)) ty_one29 rfl (by rw [← f5]; exact st.c1 (by decide))) rfl rfl rfl ?_
              -- R17.2 132 := more.go:73 nilCheck
              refine QL.v (fun w st => by exact r_nilCheck rfl) rfl rfl rfl ?_
              -- R17.3 133 := more.go:73 fieldAddr
              refine QL.v (fun w st => by exact r_field ty_fld50_0 rfl) rfl rfl rfl ?_
              -- R17.4 134 := more.go:73 load
              refine QL.v (fun w st => by exact r_load1 (v := .int .i64 (s.mode : Nat)) ty_one40 rfl (c_s (hck2 _ _).B (by decide) rfl st)) rfl rfl rfl ?_
              -- R17.5 135 := more.go:73 binOp
              refine QL.v (fun w st => by first | exact r_eql rfl rfl (decide_eq_true (by omega)) | exact r_eql rfl rfl (decide_eq_false (by omega)) | exact r_eql rfl rfl rfl) rfl rfl rfl ?_
              -- R17.6 136 := more.go:73 move
              refine QL.v (fun w st => by first | exact r_move (v := .bool _) rfl | exact r_move rfl) rfl rfl rfl ?_
              -- R17.7 137 := more.go:73 fieldAddr
              refine QL.v (fun w st => by exact r_field ty_fld36_0 rfl) rfl rfl rfl ?_
              -- R17.8 138 := more.go:73 fieldAddr
              refine QL.v (fun w st => by exact r_field ty_fld28_3 rfl) rfl rfl rfl ?_
              -- R17.9 139 := more.go:73 load
              refine QL.v (fun w st => by exact r_load1 (v := .int .i64 o.C) ty_one2 rfl (by rw [← f3]; exact st.c1 (by decide))) rfl rfl rfl ?_
              -- R17.10 140 := more.go:73 fieldAddr
              refine QL.v (fun w st => by exact r_field ty_fld36_1 rfl) rfl rfl rfl ?_
              -- R17.11 141 := more.go:73 load
              refine QL.v (fun w st => by exact r_load1 (v := .pointer (some ⟨bB, 0, none⟩)) ty_one29 rfl (by rw [← f5]; exact st.c1 (by decide))) rfl rfl rfl ?_
              -- R17.12 142 := more.go:73 move
              refine QL.v (fun w st => by exact r_move (v := .int .i64 (t : Nat)) (congrArg (Value.int .i64) hT)) rfl rfl rfl ?_
              -- R17.13 143 := more.go:73 move
              refine QL.v (fun w st => by first | exact r_move (v := .int _ _) rfl | exact r_move rfl) rfl rfl rfl ?_
              -- R17.14 144 := more.go:73 nilCheck
              refine QL.v (fun w st => by exact r_nilCheck rfl) rfl rfl rfl ?_
              -- R17.15 145 := more.go:73 fieldAddr
              refine QL.v (fun w st => by exact r_field ty_fld50_5 rfl) rfl rfl rfl ?_
              -- R17.16 146 := more.go:73 indexAddr
              refine QL.v (fun w st => by exact r_indexA (j := t) ty_ar45 rfl rfl rfl ht16) rfl rfl rfl ?_
              -- R17.17 147 := more.go:73 indexAddr
              refine QL.v (fun w st => by exact r_indexA (j := r) ty_ar44 rfl rfl rfl hr20) rfl rfl rfl ?_
              -- R17.18 148 := more.go:73 load
              refine QL.v (fun w st => by exact r_load1 (v := .int .i64 (s.claim t r : Nat)) ty_one3 rfl (c_sC (hck2 _ _).B ht16 hr20 (by omega) st)) rfl rfl rfl ?_
              -- R17.19 149 := more.go:73 fieldAddr
              refine QL.v (fun w st => by exact r_field ty_fld36_1 rfl) rfl rfl rfl ?_
              -- R17.20 150 := more.go:73 load
              refine QL.v (fun w st => by exact r_load1 (v := .pointer (some ⟨bB, 0, none⟩)) ty_one29 rfl (by rw [← f5]; exact st.c1 (by decide))) rfl rfl rfl ?_
              -- R17.21 151 := more.go:73 move
              refine QL.v (fun w st => by exact r_move (v := .int .i64 (t : Nat)) (congrArg (Value.int .i64) hT)) rfl rfl rfl ?_
              -- R17.22 152 := more.go:73 move
              refine QL.v (fun w st => by first | exact r_move (v := .int _ _) rfl | exact r_move rfl) rfl rfl rfl ?_
              -- R17.23 153 := more.go:73 nilCheck
              refine QL.v (fun w st => by exact r_nilCheck rfl) rfl rfl rfl ?_
              -- R17.24 154 := more.go:73 fieldAddr
              refine QL.v (fun w st => by exact r_field ty_fld50_4 rfl) rfl rfl rfl ?_
              -- R17.25 155 := more.go:73 indexAddr
              refine QL.v (fun w st => by exact r_indexA (j := t) ty_ar45 rfl rfl rfl ht16) rfl rfl rfl ?_
              -- R17.26 156 := more.go:73 indexAddr
              refine QL.v (fun w st => by exact r_indexA (j := r) ty_ar44 rfl rfl rfl hr20) rfl rfl rfl ?_
              -- R17.27 157 := more.go:73 load
              refine QL.v (fun w st => by exact r_load1 (v := .int .i64 (s.held t r : Nat)) ty_one3 rfl (c_sH (hck2 _ _).B ht16 hr20 (by omega) st)) rfl rfl rfl ?_
              -- R17.28 158 := more.go:73 binOp
              refine QL.v (fun w st => by exact r_sub (r := (s.claim t r : Int) - s.held t r) rfl rfl (wi64 (by omega) (by omega))) rfl rfl rfl ?_
              -- R17.29 159 := more.go:73 binOp
              refine QL.v (fun w st => by exact r_gtr rfl rfl (decide_eq_false hnc)) rfl rfl rfl ?_
              -- R17.30 160 := more.go:73 pick
              refine QL.v (fun w st => by first | exact r_pickT (v := .bool _) rfl rfl | exact r_pickF (v := .bool _) rfl rfl) rfl rfl rfl ?_
              -- R17.31 7 := more.go:73 assign
              refine QL.v (fun w st => by first | exact r_assign (v := .bool _) rfl | exact r_assign rfl) rfl rfl rfl ?_
              refine QL.wl hKq fun w st => ?_
              refine WL.fin hK1052 (fun _ _ h => h) ?_
              refine WC.seq fun K1053 hK1053 => ?_
              -- region 18
              refine WC.region ?_
              -- R18.0 161 := more.go:74 fieldAddr
              refine WL.v (by exact r_field ty_fld36_3 rfl) rfl rfl rfl ?_
              -- R18.1 162 := more.go:74 fieldAddr
              refine WL.v (by exact r_field ty_fld34_0 rfl) rfl rfl rfl ?_
              -- R18.2 163 := more.go:74 load
              refine WL.v (by exact r_load1 (v := .int .i64 code) ty_one30 rfl (by rw [← f7]; exact st.c1 (by decide))) rfl rfl rfl ?_
              -- R18.3 164 := more.go:74 binOp
              refine WL.v (by first | exact r_neq rfl rfl (decide_eq_true (by omega)) | exact r_neq rfl rfl (decide_eq_false (by omega)) | exact r_neq rfl rfl rfl) rfl rfl rfl ?_
              -- R18.4 165 := more.go:74 move
              refine WL.v (by first | exact r_move (v := .bool _) rfl | exact r_move rfl) rfl rfl rfl ?_
              -- R18.5 166 := more.go:74 fieldAddr
              refine WL.no rfl rfl ?_
              -- R18.6 167 := more.go:74 fieldAddr
              refine WL.no rfl rfl ?_
              -- R18.7 168 := more.go:74 load
              refine WL.no rfl rfl ?_
              -- R18.8 169 := more.go:74 binOp
              refine WL.no rfl rfl ?_
              -- R18.9 170 := more.go:74 pick
              refine WL.v (by first | exact r_pickT (v := .bool _) rfl rfl | exact r_pickF (v := .bool _) rfl rfl) rfl rfl rfl ?_
              -- R18.10 8 := more.go:74 assign
              refine WL.v (by first | exact r_assign (v := .bool _) rfl | exact r_assign rfl) rfl rfl rfl ?_
              refine WL.fin hK1053 (fun _ _ h => h) ?_
              refine WC.seq fun K1054 hK1054 => ?_
              -- region 19
              refine WC.region ?_
              -- R19.0 171 := more.go:75 move
              refine WL.v (by first | exact r_move (v := .bool _) rfl | exact r_move rfl) rfl rfl rfl ?_
              -- R19.1 172 := more.go:75 move
              refine WL.v (by first | exact r_move (v := .bool _) rfl | exact r_move rfl) rfl rfl rfl ?_
              -- R19.2 173 := more.go:75 move
              refine WL.no rfl rfl ?_
              -- R19.3 174 := more.go:75 fieldAddr
              refine WL.no rfl rfl ?_
              -- R19.4 175 := more.go:75 fieldAddr
              refine WL.no rfl rfl ?_
              -- R19.5 176 := more.go:75 load
              refine WL.no rfl rfl ?_
              -- R19.6 177 := more.go:75 binOp
              refine WL.no rfl rfl ?_
              -- R19.7 178 := more.go:75 binOp
              refine WL.no rfl rfl ?_
              -- R19.8 179 := more.go:75 pick
              refine WL.v (by first | exact r_pickT (v := .bool _) rfl rfl | exact r_pickF (v := .bool _) rfl rfl) rfl rfl rfl ?_
              refine WL.fin hK1054 (fun _ _ h => h) ?_
              refine WC.condF rfl rfl ?_
              refine WC.skipJ hKC (fun _ _ h => h) () (by rw [hcs]; exact st) (by repeat (first | exact sub_nil _ | refine sub_cons rfl rfl ?_))
            · skip
              refine WC.seq fun K1055 hK1055 => ?_
              -- region 6
              refine WC.region ?_
              -- R6.0 60 := more.go:62 fieldAddr
              refine WL.v (by exact r_field ty_fld36_0 rfl) rfl rfl rfl ?_
              -- R6.1 61 := more.go:62 fieldAddr
              refine WL.v (by exact r_field ty_fld28_0 rfl) rfl rfl rfl ?_
              -- R6.2 62 := more.go:62 load
              refine WL.v (by exact r_load1 (v := .int .u8 (o.kind : Nat)) ty_one25 rfl (by rw [← f0]; exact st.c1 (by decide))) rfl rfl rfl ?_
              refine WL.fin hK1055 (fun _ _ h => h) ?_
              refine WC.block ?_
              refine WC.seq fun K1056 hK1056 => ?_
              -- region 7
              refine WC.region ?_
              -- R7.0 64 := more.go:63 binOp
              refine WL.v (by first | exact r_eql rfl rfl (decide_eq_true (by omega)) | exact r_eql rfl rfl (decide_eq_false (by omega)) | exact r_eql rfl rfl rfl) rfl rfl rfl ?_
              -- R7.1 63 := more.go:63 assign
              refine WL.v (by first | exact r_assign (v := .bool _) rfl | exact r_assign rfl) rfl rfl rfl ?_
              refine WL.fin hK1056 (fun _ _ h => h) ?_
              refine WC.condF rfl rfl ?_
              refine WC.seq fun K1057 hK1057 => ?_
              refine WC.seq fun K1058 hK1058 => ?_
              -- region 14
              refine WC.region ?_
              -- R14.0 127 := more.go:72 binOp
              refine WL.v (by first | exact r_eql rfl rfl (decide_eq_true (by omega)) | exact r_eql rfl rfl (decide_eq_false (by omega)) | exact r_eql rfl rfl rfl) rfl rfl rfl ?_
              -- R14.1 126 := more.go:72 assign
              refine WL.v (by first | exact r_assign (v := .bool _) rfl | exact r_assign rfl) rfl rfl rfl ?_
              refine WL.fin hK1058 (fun _ _ h => h) ?_
              refine WC.condF rfl rfl ?_
              refine WC.seq fun K1059 hK1059 => ?_
              -- region 15
              refine WC.region ?_
              -- R15.0 128 := more.go:72 binOp
              refine WL.v (by first | exact r_eql rfl rfl (decide_eq_true (by omega)) | exact r_eql rfl rfl (decide_eq_false (by omega)) | exact r_eql rfl rfl rfl) rfl rfl rfl ?_
              -- R15.1 126 := more.go:72 assign
              refine WL.v (by first | exact r_assign (v := .bool _) rfl | exact r_assign rfl) rfl rfl rfl ?_
              refine WL.fin hK1059 (fun _ _ h => h) ?_
              refine WC.condT rfl rfl ?_
              refine WC.skipF hK1057 (fun _ _ h => h) ?_
              refine WC.condT rfl rfl ?_
              refine WC.seq fun K1060 hK1060 => ?_
              -- region 17 (draws)
              refine WC.quietS st ty_mixed (by kernel_rfl) fun Kq hKq => ?_
              -- R17.0 130 := more.go:73 fieldAddr
              refine QL.v (fun w st => by exact r_field ty_fld36_1 rfl) rfl rfl rfl ?_
              -- R17.1 131 := more.go:73 load
              refine QL.v (fun w st => by exact r_load1 (v := .pointer (some ⟨bB, 0, none⟩)) ty_one29 rfl (by rw [← f5]; exact st.c1 (by decide))) rfl rfl rfl ?_
              -- R17.2 132 := more.go:73 nilCheck
              refine QL.v (fun w st => by exact r_nilCheck rfl) rfl rfl rfl ?_
              -- R17.3 133 := more.go:73 fieldAddr
              refine QL.v (fun w st => by exact r_field ty_fld50_0 rfl) rfl rfl rfl ?_
              -- R17.4 134 := more.go:73 load
              refine QL.v (fun w st => by exact r_load1 (v := .int .i64 (s.mode : Nat)) ty_one40 rfl (c_s (hck2 _ _).B (by decide) rfl st)) rfl rfl rfl ?_
              -- R17.5 135 := more.go:73 binOp
              refine QL.v (fun w st => by first | exact r_eql rfl rfl (decide_eq_true (by omega)) | exact r_eql rfl rfl (decide_eq_false (by omega)) | exact r_eql rfl rfl rfl) rfl rfl rfl ?_
              -- R17.6 136 := more.go:73 move
              refine QL.v (fun w st => by first | exact r_move (v := .bool _) rfl | exact r_move rfl) rfl rfl rfl ?_
              -- R17.7 137 := more.go:73 fieldAddr
              refine QL.v (fun w st => by exact r_field ty_fld36_0 rfl) rfl rfl rfl ?_
              -- R17.8 138 := more.go:73 fieldAddr
              refine QL.v (fun w st => by exact r_field ty_fld28_3 rfl) rfl rfl rfl ?_
              -- R17.9 139 := more.go:73 load
              refine QL.v (fun w st => by exact r_load1 (v := .int .i64 o.C) ty_one2 rfl (by rw [← f3]; exact st.c1 (by decide))) rfl rfl rfl ?_
              -- R17.10 140 := more.go:73 fieldAddr
              refine QL.v (fun w st => by exact r_field ty_fld36_1 rfl) rfl rfl rfl ?_
              -- R17.11 141 := more.go:73 load
              refine QL.v (fun w st => by exact r_load1 (v := .pointer (some ⟨bB, 0, none⟩)) ty_one29 rfl (by rw [← f5]; exact st.c1 (by decide))) rfl rfl rfl ?_
              -- R17.12 142 := more.go:73 move
              refine QL.v (fun w st => by exact r_move (v := .int .i64 (t : Nat)) (congrArg (Value.int .i64) hT)) rfl rfl rfl ?_
              -- R17.13 143 := more.go:73 move
              refine QL.v (fun w st => by first | exact r_move (v := .int _ _) rfl | exact r_move rfl) rfl rfl rfl ?_
              -- R17.14 144 := more.go:73 nilCheck
              refine QL.v (fun w st => by exact r_nilCheck rfl) rfl rfl rfl ?_
              -- R17.15 145 := more.go:73 fieldAddr
              refine QL.v (fun w st => by exact r_field ty_fld50_5 rfl) rfl rfl rfl ?_
              -- R17.16 146 := more.go:73 indexAddr
              refine QL.v (fun w st => by exact r_indexA (j := t) ty_ar45 rfl rfl rfl ht16) rfl rfl rfl ?_
              -- R17.17 147 := more.go:73 indexAddr
              refine QL.v (fun w st => by exact r_indexA (j := r) ty_ar44 rfl rfl rfl hr20) rfl rfl rfl ?_
              -- R17.18 148 := more.go:73 load
              refine QL.v (fun w st => by exact r_load1 (v := .int .i64 (s.claim t r : Nat)) ty_one3 rfl (c_sC (hck2 _ _).B ht16 hr20 (by omega) st)) rfl rfl rfl ?_
              -- R17.19 149 := more.go:73 fieldAddr
              refine QL.v (fun w st => by exact r_field ty_fld36_1 rfl) rfl rfl rfl ?_
              -- R17.20 150 := more.go:73 load
              refine QL.v (fun w st => by exact r_load1 (v := .pointer (some ⟨bB, 0, none⟩)) ty_one29 rfl (by rw [← f5]; exact st.c1 (by decide))) rfl rfl rfl ?_
              -- R17.21 151 := more.go:73 move
              refine QL.v (fun w st => by exact r_move (v := .int .i64 (t : Nat)) (congrArg (Value.int .i64) hT)) rfl rfl rfl ?_
              -- R17.22 152 := more.go:73 move
              refine QL.v (fun w st => by first | exact r_move (v := .int _ _) rfl | exact r_move rfl) rfl rfl rfl ?_
              -- R17.23 153 := more.go:73 nilCheck
              refine QL.v (fun w st => by exact r_nilCheck rfl) rfl rfl rfl ?_
              -- R17.24 154 := more.go:73 fieldAddr
              refine QL.v (fun w st => by exact r_field ty_fld50_4 rfl) rfl rfl rfl ?_
              -- R17.25 155 := more.go:73 indexAddr
              refine QL.v (fun w st => by exact r_indexA (j := t) ty_ar45 rfl rfl rfl ht16) rfl rfl rfl ?_
              -- R17.26 156 := more.go:73 indexAddr
              refine QL.v (fun w st => by exact r_indexA (j := r) ty_ar44 rfl rfl rfl hr20) rfl rfl rfl ?_
              -- R17.27 157 := more.go:73 load
              refine QL.v (fun w st => by exact r_load1 (v := .int .i64 (s.held t r : Nat)) ty_one3 rfl (c_sH (hck2 _ _).B ht16 hr20 (by omega) st)) rfl rfl rfl ?_
              -- R17.28 158 := more.go:73 binOp
              refine QL.v (fun w st => by exact r_sub (r := (s.claim t r : Int) - s.held t r) rfl rfl (wi64 (by omega) (by omega))) rfl rfl rfl ?_
              -- R17.29 159 := more.go:73 binOp
              refine QL.v (fun w st => by exact r_gtr rfl rfl (decide_eq_false hnc)) rfl rfl rfl ?_
              -- R17.30 160 := more.go:73 pick
              refine QL.v (fun w st => by first | exact r_pickT (v := .bool _) rfl rfl | exact r_pickF (v := .bool _) rfl rfl) rfl rfl rfl ?_
              -- R17.31 7 := more.go:73 assign
              refine QL.v (fun w st => by first | exact r_assign (v := .bool _) rfl | exact r_assign rfl) rfl rfl rfl ?_
              refine QL.wl hKq fun w st => ?_
              refine WL.fin hK1060 (fun _ _ h => h) ?_
              refine WC.seq fun K1061 hK1061 => ?_
              -- region 18
              refine WC.region ?_
              -- R18.0 161 := more.go:74 fieldAddr
              refine WL.v (by exact r_field ty_fld36_3 rfl) rfl rfl rfl ?_
              -- R18.1 162 := more.go:74 fieldAddr
              refine WL.v (by exact r_field ty_fld34_0 rfl) rfl rfl rfl ?_
              -- R18.2 163 := more.go:74 load
              refine WL.v (by exact r_load1 (v := .int .i64 code) ty_one30 rfl (by rw [← f7]; exact st.c1 (by decide))) rfl rfl rfl ?_
              -- R18.3 164 := more.go:74 binOp
              refine WL.v (by first | exact r_neq rfl rfl (decide_eq_true (by omega)) | exact r_neq rfl rfl (decide_eq_false (by omega)) | exact r_neq rfl rfl rfl) rfl rfl rfl ?_
              -- R18.4 165 := more.go:74 move
              refine WL.v (by first | exact r_move (v := .bool _) rfl | exact r_move rfl) rfl rfl rfl ?_
              -- R18.5 166 := more.go:74 fieldAddr
              refine WL.no rfl rfl ?_
              -- R18.6 167 := more.go:74 fieldAddr
              refine WL.no rfl rfl ?_
              -- R18.7 168 := more.go:74 load
              refine WL.no rfl rfl ?_
              -- R18.8 169 := more.go:74 binOp
              refine WL.no rfl rfl ?_
              -- R18.9 170 := more.go:74 pick
              refine WL.v (by first | exact r_pickT (v := .bool _) rfl rfl | exact r_pickF (v := .bool _) rfl rfl) rfl rfl rfl ?_
              -- R18.10 8 := more.go:74 assign
              refine WL.v (by first | exact r_assign (v := .bool _) rfl | exact r_assign rfl) rfl rfl rfl ?_
              refine WL.fin hK1061 (fun _ _ h => h) ?_
              refine WC.seq fun K1062 hK1062 => ?_
              -- region 19
              refine WC.region ?_
              -- R19.0 171 := more.go:75 move
              refine WL.v (by first | exact r_move (v := .bool _) rfl | exact r_move rfl) rfl rfl rfl ?_
              -- R19.1 172 := more.go:75 move
              refine WL.v (by first | exact r_move (v := .bool _) rfl | exact r_move rfl) rfl rfl rfl ?_
              -- R19.2 173 := more.go:75 move
              refine WL.no rfl rfl ?_
              -- R19.3 174 := more.go:75 fieldAddr
              refine WL.no rfl rfl ?_
              -- R19.4 175 := more.go:75 fieldAddr
              refine WL.no rfl rfl ?_
              -- R19.5 176 := more.go:75 load
              refine WL.no rfl rfl ?_
              -- R19.6 177 := more.go:75 binOp
              refine WL.no rfl rfl ?_
              -- R19.7 178 := more.go:75 binOp
              refine WL.no rfl rfl ?_
              -- R19.8 179 := more.go:75 pick
              refine WL.v (by first | exact r_pickT (v := .bool _) rfl rfl | exact r_pickF (v := .bool _) rfl rfl) rfl rfl rfl ?_
              refine WL.fin hK1062 (fun _ _ h => h) ?_
              refine WC.condF rfl rfl ?_
              refine WC.skipJ hKC (fun _ _ h => h) () (by rw [hcs]; exact st) (by repeat (first | exact sub_nil _ | refine sub_cons rfl rfl ?_))
            · skip
              refine WC.seq fun K1063 hK1063 => ?_
              -- region 6
              refine WC.region ?_
              -- R6.0 60 := more.go:62 fieldAddr
              refine WL.v (by exact r_field ty_fld36_0 rfl) rfl rfl rfl ?_
              -- R6.1 61 := more.go:62 fieldAddr
              refine WL.v (by exact r_field ty_fld28_0 rfl) rfl rfl rfl ?_
              -- R6.2 62 := more.go:62 load
              refine WL.v (by exact r_load1 (v := .int .u8 (o.kind : Nat)) ty_one25 rfl (by rw [← f0]; exact st.c1 (by decide))) rfl rfl rfl ?_
              refine WL.fin hK1063 (fun _ _ h => h) ?_
              refine WC.block ?_
              refine WC.seq fun K1064 hK1064 => ?_
              -- region 7
              refine WC.region ?_
              -- R7.0 64 := more.go:63 binOp
              refine WL.v (by first | exact r_eql rfl rfl (decide_eq_true (by omega)) | exact r_eql rfl rfl (decide_eq_false (by omega)) | exact r_eql rfl rfl rfl) rfl rfl rfl ?_
              -- R7.1 63 := more.go:63 assign
              refine WL.v (by first | exact r_assign (v := .bool _) rfl | exact r_assign rfl) rfl rfl rfl ?_
              refine WL.fin hK1064 (fun _ _ h => h) ?_
              refine WC.condF rfl rfl ?_
              refine WC.seq fun K1065 hK1065 => ?_
              refine WC.seq fun K1066 hK1066 => ?_
              -- region 14
              refine WC.region ?_
              -- R14.0 127 := more.go:72 binOp
              refine WL.v (by first | exact r_eql rfl rfl (decide_eq_true (by omega)) | exact r_eql rfl rfl (decide_eq_false (by omega)) | exact r_eql rfl rfl rfl) rfl rfl rfl ?_
              -- R14.1 126 := more.go:72 assign
              refine WL.v (by first | exact r_assign (v := .bool _) rfl | exact r_assign rfl) rfl rfl rfl ?_
              refine WL.fin hK1066 (fun _ _ h => h) ?_
              refine WC.condF rfl rfl ?_
              refine WC.seq fun K1067 hK1067 => ?_
              -- region 15
              refine WC.region ?_
              -- R15.0 128 := more.go:72 binOp
              refine WL.v (by first | exact r_eql rfl rfl (decide_eq_true (by omega)) | exact r_eql rfl rfl (decide_eq_false (by omega)) | exact r_eql rfl rfl rfl) rfl rfl rfl ?_
              -- R15.1 126 := more.go:72 assign
              refine WL.v (by first | exact r_assign (v := .bool _) rfl | exact r_assign rfl) rfl rfl rfl ?_
              refine WL.fin hK1067 (fun _ _ h => h) ?_
              refine WC.condF rfl rfl ?_
              -- region 16
              refine WC.region ?_
              -- R16.0 129 := more.go:72 binOp
              refine WL.v (by first | exact r_eql rfl rfl (decide_eq_true (by omega)) | exact r_eql rfl rfl (decide_eq_false (by omega)) | exact r_eql rfl rfl rfl) rfl rfl rfl ?_
              -- R16.1 126 := more.go:72 assign
              refine WL.v (by first | exact r_assign (v := .bool _) rfl | exact r_assign rfl) rfl rfl rfl ?_
              refine WL.fin hK1065 (fun _ _ h => h) ?_
              refine WC.condT rfl rfl ?_
              refine WC.seq fun K1068 hK1068 => ?_
              -- region 17 (draws)
              refine WC.quietS st ty_mixed (by kernel_rfl) fun Kq hKq => ?_
              -- R17.0 130 := more.go:73 fieldAddr
              refine QL.v (fun w st => by exact r_field ty_fld36_1 rfl) rfl rfl rfl ?_
              -- R17.1 131 := more.go:73 load
              refine QL.v (fun w st => by exact r_load1 (v := .pointer (some ⟨bB, 0, none⟩)) ty_one29 rfl (by rw [← f5]; exact st.c1 (by decide))) rfl rfl rfl ?_
              -- R17.2 132 := more.go:73 nilCheck
              refine QL.v (fun w st => by exact r_nilCheck rfl) rfl rfl rfl ?_
              -- R17.3 133 := more.go:73 fieldAddr
              refine QL.v (fun w st => by exact r_field ty_fld50_0 rfl) rfl rfl rfl ?_
              -- R17.4 134 := more.go:73 load
              refine QL.v (fun w st => by exact r_load1 (v := .int .i64 (s.mode : Nat)) ty_one40 rfl (c_s (hck2 _ _).B (by decide) rfl st)) rfl rfl rfl ?_
              -- R17.5 135 := more.go:73 binOp
              refine QL.v (fun w st => by first | exact r_eql rfl rfl (decide_eq_true (by omega)) | exact r_eql rfl rfl (decide_eq_false (by omega)) | exact r_eql rfl rfl rfl) rfl rfl rfl ?_
              -- R17.6 136 := more.go:73 move
              refine QL.v (fun w st => by first | exact r_move (v := .bool _) rfl | exact r_move rfl) rfl rfl rfl ?_
              -- R17.7 137 := more.go:73 fieldAddr
              refine QL.v (fun w st => by exact r_field ty_fld36_0 rfl) rfl rfl rfl ?_
              -- R17.8 138 := more.go:73 fieldAddr
              refine QL.v (fun w st => by exact r_field ty_fld28_3 rfl) rfl rfl rfl ?_
              -- R17.9 139 := more.go:73 load
              refine QL.v (fun w st => by exact r_load1 (v := .int .i64 o.C) ty_one2 rfl (by rw [← f3]; exact st.c1 (by decide))) rfl rfl rfl ?_
              -- R17.10 140 := more.go:73 fieldAddr
              refine QL.v (fun w st => by exact r_field ty_fld36_1 rfl) rfl rfl rfl ?_
              -- R17.11 141 := more.go:73 load
              refine QL.v (fun w st => by exact r_load1 (v := .pointer (some ⟨bB, 0, none⟩)) ty_one29 rfl (by rw [← f5]; exact st.c1 (by decide))) rfl rfl rfl ?_
              -- R17.12 142 := more.go:73 move
              refine QL.v (fun w st => by exact r_move (v := .int .i64 (t : Nat)) (congrArg (Value.int .i64) hT)) rfl rfl rfl ?_
              -- R17.13 143 := more.go:73 move
              refine QL.v (fun w st => by first | exact r_move (v := .int _ _) rfl | exact r_move rfl) rfl rfl rfl ?_
              -- R17.14 144 := more.go:73 nilCheck
              refine QL.v (fun w st => by exact r_nilCheck rfl) rfl rfl rfl ?_
              -- R17.15 145 := more.go:73 fieldAddr
              refine QL.v (fun w st => by exact r_field ty_fld50_5 rfl) rfl rfl rfl ?_
              -- R17.16 146 := more.go:73 indexAddr
              refine QL.v (fun w st => by exact r_indexA (j := t) ty_ar45 rfl rfl rfl ht16) rfl rfl rfl ?_
              -- R17.17 147 := more.go:73 indexAddr
              refine QL.v (fun w st => by exact r_indexA (j := r) ty_ar44 rfl rfl rfl hr20) rfl rfl rfl ?_
              -- R17.18 148 := more.go:73 load
              refine QL.v (fun w st => by exact r_load1 (v := .int .i64 (s.claim t r : Nat)) ty_one3 rfl (c_sC (hck2 _ _).B ht16 hr20 (by omega) st)) rfl rfl rfl ?_
              -- R17.19 149 := more.go:73 fieldAddr
              refine QL.v (fun w st => by exact r_field ty_fld36_1 rfl) rfl rfl rfl ?_
              -- R17.20 150 := more.go:73 load
              refine QL.v (fun w st => by exact r_load1 (v := .pointer (some ⟨bB, 0, none⟩)) ty_one29 rfl (by rw [← f5]; exact st.c1 (by decide))) rfl rfl rfl ?_
              -- R17.21 151 := more.go:73 move
              refine QL.v (fun w st => by exact r_move (v := .int .i64 (t : Nat)) (congrArg (Value.int .i64) hT)) rfl rfl rfl ?_
              -- R17.22 152 := more.go:73 move
              refine QL.v (fun w st => by first | exact r_move (v := .int _ _) rfl | exact r_move rfl) rfl rfl rfl ?_
              -- R17.23 153 := more.go:73 nilCheck
              refine QL.v (fun w st => by exact r_nilCheck rfl) rfl rfl rfl ?_
              -- R17.24 154 := more.go:73 fieldAddr
              refine QL.v (fun w st => by exact r_field ty_fld50_4 rfl) rfl rfl rfl ?_
              -- R17.25 155 := more.go:73 indexAddr
              refine QL.v (fun w st => by exact r_indexA (j := t) ty_ar45 rfl rfl rfl ht16) rfl rfl rfl ?_
              -- R17.26 156 := more.go:73 indexAddr
              refine QL.v (fun w st => by exact r_indexA (j := r) ty_ar44 rfl rfl rfl hr20) rfl rfl rfl ?_
              -- R17.27 157 := more.go:73 load
              refine QL.v (fun w st => by exact r_load1 (v := .int .i64 (s.held t r : Nat)) ty_one3 rfl (c_sH (hck2 _ _).B ht16 hr20 (by omega) st)) rfl rfl rfl ?_
              -- R17.28 158 := more.go:73 binOp
              refine QL.v (fun w st => by exact r_sub (r := (s.claim t r : Int) - s.held t r) rfl rfl (wi64 (by omega) (by omega))) rfl rfl rfl ?_
              -- R17.29 159 := more.go:73 binOp
              refine QL.v (fun w st => by exact r_gtr rfl rfl (decide_eq_false hnc)) rfl rfl rfl ?_
              -- R17.30 160 := more.go:73 pick
              refine QL.v (fun w st => by first | exact r_pickT (v := .bool _) rfl rfl | exact r_pickF (v := .bool _) rfl rfl) rfl rfl rfl ?_
              -- R17.31 7 := more.go:73 assign
              refine QL.v (fun w st => by first | exact r_assign (v := .bool _) rfl | exact r_assign rfl) rfl rfl rfl ?_
              refine QL.wl hKq fun w st => ?_
              refine WL.fin hK1068 (fun _ _ h => h) ?_
              refine WC.seq fun K1069 hK1069 => ?_
              -- region 18
              refine WC.region ?_
              -- R18.0 161 := more.go:74 fieldAddr
              refine WL.v (by exact r_field ty_fld36_3 rfl) rfl rfl rfl ?_
              -- R18.1 162 := more.go:74 fieldAddr
              refine WL.v (by exact r_field ty_fld34_0 rfl) rfl rfl rfl ?_
              -- R18.2 163 := more.go:74 load
              refine WL.v (by exact r_load1 (v := .int .i64 code) ty_one30 rfl (by rw [← f7]; exact st.c1 (by decide))) rfl rfl rfl ?_
              -- R18.3 164 := more.go:74 binOp
              refine WL.v (by first | exact r_neq rfl rfl (decide_eq_true (by omega)) | exact r_neq rfl rfl (decide_eq_false (by omega)) | exact r_neq rfl rfl rfl) rfl rfl rfl ?_
              -- R18.4 165 := more.go:74 move
              refine WL.v (by first | exact r_move (v := .bool _) rfl | exact r_move rfl) rfl rfl rfl ?_
              -- R18.5 166 := more.go:74 fieldAddr
              refine WL.no rfl rfl ?_
              -- R18.6 167 := more.go:74 fieldAddr
              refine WL.no rfl rfl ?_
              -- R18.7 168 := more.go:74 load
              refine WL.no rfl rfl ?_
              -- R18.8 169 := more.go:74 binOp
              refine WL.no rfl rfl ?_
              -- R18.9 170 := more.go:74 pick
              refine WL.v (by first | exact r_pickT (v := .bool _) rfl rfl | exact r_pickF (v := .bool _) rfl rfl) rfl rfl rfl ?_
              -- R18.10 8 := more.go:74 assign
              refine WL.v (by first | exact r_assign (v := .bool _) rfl | exact r_assign rfl) rfl rfl rfl ?_
              refine WL.fin hK1069 (fun _ _ h => h) ?_
              refine WC.seq fun K1070 hK1070 => ?_
              -- region 19
              refine WC.region ?_
              -- R19.0 171 := more.go:75 move
              refine WL.v (by first | exact r_move (v := .bool _) rfl | exact r_move rfl) rfl rfl rfl ?_
              -- R19.1 172 := more.go:75 move
              refine WL.v (by first | exact r_move (v := .bool _) rfl | exact r_move rfl) rfl rfl rfl ?_
              -- R19.2 173 := more.go:75 move
              refine WL.no rfl rfl ?_
              -- R19.3 174 := more.go:75 fieldAddr
              refine WL.no rfl rfl ?_
              -- R19.4 175 := more.go:75 fieldAddr
              refine WL.no rfl rfl ?_
              -- R19.5 176 := more.go:75 load
              refine WL.no rfl rfl ?_
              -- R19.6 177 := more.go:75 binOp
              refine WL.no rfl rfl ?_
              -- R19.7 178 := more.go:75 binOp
              refine WL.no rfl rfl ?_
              -- R19.8 179 := more.go:75 pick
              refine WL.v (by first | exact r_pickT (v := .bool _) rfl rfl | exact r_pickF (v := .bool _) rfl rfl) rfl rfl rfl ?_
              refine WL.fin hK1070 (fun _ _ h => h) ?_
              refine WC.condF rfl rfl ?_
              refine WC.skipJ hKC (fun _ _ h => h) () (by rw [hcs]; exact st) (by repeat (first | exact sub_nil _ | refine sub_cons rfl rfl ?_))
          by_cases h15 : code = 15
          · skip
            rcases (by omega : o.kind = 3 ∨ o.kind = 4 ∨ o.kind = 5) with hk3 | hk4 | hk5
            · skip
              refine WC.seq fun K1071 hK1071 => ?_
              -- region 6
              refine WC.region ?_
              -- R6.0 60 := more.go:62 fieldAddr
              refine WL.v (by exact r_field ty_fld36_0 rfl) rfl rfl rfl ?_
              -- R6.1 61 := more.go:62 fieldAddr
              refine WL.v (by exact r_field ty_fld28_0 rfl) rfl rfl rfl ?_
              -- R6.2 62 := more.go:62 load
              refine WL.v (by exact r_load1 (v := .int .u8 (o.kind : Nat)) ty_one25 rfl (by rw [← f0]; exact st.c1 (by decide))) rfl rfl rfl ?_
              refine WL.fin hK1071 (fun _ _ h => h) ?_
              refine WC.block ?_
              refine WC.seq fun K1072 hK1072 => ?_
              -- region 7
              refine WC.region ?_
              -- R7.0 64 := more.go:63 binOp
              refine WL.v (by first | exact r_eql rfl rfl (decide_eq_true (by omega)) | exact r_eql rfl rfl (decide_eq_false (by omega)) | exact r_eql rfl rfl rfl) rfl rfl rfl ?_
              -- R7.1 63 := more.go:63 assign
              refine WL.v (by first | exact r_assign (v := .bool _) rfl | exact r_assign rfl) rfl rfl rfl ?_
              refine WL.fin hK1072 (fun _ _ h => h) ?_
              refine WC.condF rfl rfl ?_
              refine WC.seq fun K1073 hK1073 => ?_
              refine WC.seq fun K1074 hK1074 => ?_
              -- region 14
              refine WC.region ?_
              -- R14.0 127 := more.go:72 binOp
              refine WL.v (by first | exact r_eql rfl rfl (decide_eq_true (by omega)) | exact r_eql rfl rfl (decide_eq_false (by omega)) | exact r_eql rfl rfl rfl) rfl rfl rfl ?_
              -- R14.1 126 := more.go:72 assign
              refine WL.v (by first | exact r_assign (v := .bool _) rfl | exact r_assign rfl) rfl rfl rfl ?_
              refine WL.fin hK1074 (fun _ _ h => h) ?_
              refine WC.condT rfl rfl ?_
              refine WC.skipF hK1073 (fun _ _ h => h) ?_
              refine WC.condT rfl rfl ?_
              refine WC.seq fun K1075 hK1075 => ?_
              -- region 17 (draws)
              refine WC.quietS st ty_mixed (by kernel_rfl) fun Kq hKq => ?_
              -- R17.0 130 := more.go:73 fieldAddr
              refine QL.v (fun w st => by exact r_field ty_fld36_1 rfl) rfl rfl rfl ?_
              -- R17.1 131 := more.go:73 load
              refine QL.v (fun w st => by exact r_load1 (v := .pointer (some ⟨bB, 0, none⟩)) ty_one29 rfl (by rw [← f5]; exact st.c1 (by decide))) rfl rfl rfl ?_
              -- R17.2 132 := more.go:73 nilCheck
              refine QL.v (fun w st => by exact r_nilCheck rfl) rfl rfl rfl ?_
              -- R17.3 133 := more.go:73 fieldAddr
              refine QL.v (fun w st => by exact r_field ty_fld50_0 rfl) rfl rfl rfl ?_
              -- R17.4 134 := more.go:73 load
              refine QL.v (fun w st => by exact r_load1 (v := .int .i64 (s.mode : Nat)) ty_one40 rfl (c_s (hck2 _ _).B (by decide) rfl st)) rfl rfl rfl ?_
              -- R17.5 135 := more.go:73 binOp
              refine QL.v (fun w st => by first | exact r_eql rfl rfl (decide_eq_true (by omega)) | exact r_eql rfl rfl (decide_eq_false (by omega)) | exact r_eql rfl rfl rfl) rfl rfl rfl ?_
              -- R17.6 136 := more.go:73 move
              refine QL.v (fun w st => by first | exact r_move (v := .bool _) rfl | exact r_move rfl) rfl rfl rfl ?_
              -- R17.7 137 := more.go:73 fieldAddr
              refine QL.v (fun w st => by exact r_field ty_fld36_0 rfl) rfl rfl rfl ?_
              -- R17.8 138 := more.go:73 fieldAddr
              refine QL.v (fun w st => by exact r_field ty_fld28_3 rfl) rfl rfl rfl ?_
              -- R17.9 139 := more.go:73 load
              refine QL.v (fun w st => by exact r_load1 (v := .int .i64 o.C) ty_one2 rfl (by rw [← f3]; exact st.c1 (by decide))) rfl rfl rfl ?_
              -- R17.10 140 := more.go:73 fieldAddr
              refine QL.v (fun w st => by exact r_field ty_fld36_1 rfl) rfl rfl rfl ?_
              -- R17.11 141 := more.go:73 load
              refine QL.v (fun w st => by exact r_load1 (v := .pointer (some ⟨bB, 0, none⟩)) ty_one29 rfl (by rw [← f5]; exact st.c1 (by decide))) rfl rfl rfl ?_
              -- R17.12 142 := more.go:73 move
              refine QL.v (fun w st => by exact r_move (v := .int .i64 (t : Nat)) (congrArg (Value.int .i64) hT)) rfl rfl rfl ?_
              -- R17.13 143 := more.go:73 move
              refine QL.v (fun w st => by first | exact r_move (v := .int _ _) rfl | exact r_move rfl) rfl rfl rfl ?_
              -- R17.14 144 := more.go:73 nilCheck
              refine QL.v (fun w st => by exact r_nilCheck rfl) rfl rfl rfl ?_
              -- R17.15 145 := more.go:73 fieldAddr
              refine QL.v (fun w st => by exact r_field ty_fld50_5 rfl) rfl rfl rfl ?_
              -- R17.16 146 := more.go:73 indexAddr
              refine QL.v (fun w st => by exact r_indexA (j := t) ty_ar45 rfl rfl rfl ht16) rfl rfl rfl ?_
              -- R17.17 147 := more.go:73 indexAddr
              refine QL.v (fun w st => by exact r_indexA (j := r) ty_ar44 rfl rfl rfl hr20) rfl rfl rfl ?_
              -- R17.18 148 := more.go:73 load
              refine QL.v (fun w st => by exact r_load1 (v := .int .i64 (s.claim t r : Nat)) ty_one3 rfl (c_sC (hck2 _ _).B ht16 hr20 (by omega) st)) rfl rfl rfl ?_
              -- R17.19 149 := more.go:73 fieldAddr
              refine QL.v (fun w st => by exact r_field ty_fld36_1 rfl) rfl rfl rfl ?_
              -- R17.20 150 := more.go:73 load
              refine QL.v (fun w st => by exact r_load1 (v := .pointer (some ⟨bB, 0, none⟩)) ty_one29 rfl (by rw [← f5]; exact st.c1 (by decide))) rfl rfl rfl ?_
              -- R17.21 151 := more.go:73 move
              refine QL.v (fun w st => by exact r_move (v := .int .i64 (t : Nat)) (congrArg (Value.int .i64) hT)) rfl rfl rfl ?_
              -- R17.22 152 := more.go:73 move
              refine QL.v (fun w st => by first | exact r_move (v := .int _ _) rfl | exact r_move rfl) rfl rfl rfl ?_
              -- R17.23 153 := more.go:73 nilCheck
              refine QL.v (fun w st => by exact r_nilCheck rfl) rfl rfl rfl ?_
              -- R17.24 154 := more.go:73 fieldAddr
              refine QL.v (fun w st => by exact r_field ty_fld50_4 rfl) rfl rfl rfl ?_
              -- R17.25 155 := more.go:73 indexAddr
              refine QL.v (fun w st => by exact r_indexA (j := t) ty_ar45 rfl rfl rfl ht16) rfl rfl rfl ?_
              -- R17.26 156 := more.go:73 indexAddr
              refine QL.v (fun w st => by exact r_indexA (j := r) ty_ar44 rfl rfl rfl hr20) rfl rfl rfl ?_
              -- R17.27 157 := more.go:73 load
              refine QL.v (fun w st => by exact r_load1 (v := .int .i64 (s.held t r : Nat)) ty_one3 rfl (c_sH (hck2 _ _).B ht16 hr20 (by omega) st)) rfl rfl rfl ?_
              -- R17.28 158 := more.go:73 binOp
              refine QL.v (fun w st => by exact r_sub (r := (s.claim t r : Int) - s.held t r) rfl rfl (wi64 (by omega) (by omega))) rfl rfl rfl ?_
              -- R17.29 159 := more.go:73 binOp
              refine QL.v (fun w st => by exact r_gtr rfl rfl (decide_eq_false hnc)) rfl rfl rfl ?_
              -- R17.30 160 := more.go:73 pick
              refine QL.v (fun w st => by first | exact r_pickT (v := .bool _) rfl rfl | exact r_pickF (v := .bool _) rfl rfl) rfl rfl rfl ?_
              -- R17.31 7 := more.go:73 assign
              refine QL.v (fun w st => by first | exact r_assign (v := .bool _) rfl | exact r_assign rfl) rfl rfl rfl ?_
              refine QL.wl hKq fun w st => ?_
              refine WL.fin hK1075 (fun _ _ h => h) ?_
              refine WC.seq fun K1076 hK1076 => ?_
              -- region 18
              refine WC.region ?_
              -- R18.0 161 := more.go:74 fieldAddr
              refine WL.v (by exact r_field ty_fld36_3 rfl) rfl rfl rfl ?_
              -- R18.1 162 := more.go:74 fieldAddr
              refine WL.v (by exact r_field ty_fld34_0 rfl) rfl rfl rfl ?_
              -- R18.2 163 := more.go:74 load
              refine WL.v (by exact r_load1 (v := .int .i64 code) ty_one30 rfl (by rw [← f7]; exact st.c1 (by decide))) rfl rfl rfl ?_
              -- R18.3 164 := more.go:74 binOp
              refine WL.v (by first | exact r_neq rfl rfl (decide_eq_true (by omega)) | exact r_neq rfl rfl (decide_eq_false (by omega)) | exact r_neq rfl rfl rfl) rfl rfl rfl ?_
              -- R18.4 165 := more.go:74 move
              refine WL.v (by first | exact r_move (v := .bool _) rfl | exact r_move rfl) rfl rfl rfl ?_
              -- R18.5 166 := more.go:74 fieldAddr
              refine WL.v (by exact r_field ty_fld36_3 rfl) rfl rfl rfl ?_
              -- R18.6 167 := more.go:74 fieldAddr
              refine WL.v (by exact r_field ty_fld34_0 rfl) rfl rfl rfl ?_
              -- R18.7 168 := more.go:74 load
              refine WL.v (by exact r_load1 (v := .int .i64 code) ty_one30 rfl (by rw [← f7]; exact st.c1 (by decide))) rfl rfl rfl ?_
              -- R18.8 169 := more.go:74 binOp
              refine WL.v (by first | exact r_neq rfl rfl (decide_eq_true (by omega)) | exact r_neq rfl rfl (decide_eq_false (by omega)) | exact r_neq rfl rfl rfl) rfl rfl rfl ?_
              -- R18.9 170 := more.go:74 pick
              refine WL.v (by first | exact r_pickT (v := .bool _) rfl rfl | exact r_pickF (v := .bool _) rfl rfl) rfl rfl rfl ?_
              -- R18.10 8 := more.go:74 assign
              refine WL.v (by first | exact r_assign (v := .bool _) rfl | exact r_assign rfl) rfl rfl rfl ?_
              refine WL.fin hK1076 (fun _ _ h => h) ?_
              refine WC.seq fun K1077 hK1077 => ?_
              -- region 19
              refine WC.region ?_
              -- R19.0 171 := more.go:75 move
              refine WL.v (by first | exact r_move (v := .bool _) rfl | exact r_move rfl) rfl rfl rfl ?_
              -- R19.1 172 := more.go:75 move
              refine WL.v (by first | exact r_move (v := .bool _) rfl | exact r_move rfl) rfl rfl rfl ?_
              -- R19.2 173 := more.go:75 move
              refine WL.no rfl rfl ?_
              -- R19.3 174 := more.go:75 fieldAddr
              refine WL.no rfl rfl ?_
              -- R19.4 175 := more.go:75 fieldAddr
              refine WL.no rfl rfl ?_
              -- R19.5 176 := more.go:75 load
              refine WL.no rfl rfl ?_
              -- R19.6 177 := more.go:75 binOp
              refine WL.no rfl rfl ?_
              -- R19.7 178 := more.go:75 binOp
              refine WL.no rfl rfl ?_
              -- R19.8 179 := more.go:75 pick
              refine WL.v (by first | exact r_pickT (v := .bool _) rfl rfl | exact r_pickF (v := .bool _) rfl rfl) rfl rfl rfl ?_
              refine WL.fin hK1077 (fun _ _ h => h) ?_
              refine WC.condF rfl rfl ?_
              refine WC.skipJ hKC (fun _ _ h => h) () (by rw [hcs]; exact st) (by repeat (first | exact sub_nil _ | refine sub_cons rfl rfl ?_))
            · skip
              refine WC.seq fun K1078 hK1078 => ?_
              -- region 6
              refine WC.region ?_
              -- R6.0 60 := more.go:62 fieldAddr
              refine WL.v (by exact r_field ty_fld36_0 rfl) rfl rfl rfl ?_
              -- R6.1 61 := more.go:62 fieldAddr
              refine WL.v (by exact r_field ty_fld28_0 rfl) rfl rfl rfl ?_
              -- R6.2 62 := more.go:62 load
              refine WL.v (by exact r_load1 (v := .int .u8 (o.kind : Nat)) ty_one25 rfl (by rw [← f0]; exact st.c1 (by decide))) rfl rfl rfl ?_
              refine WL.fin hK1078 (fun _ _ h => h) ?_
              refine WC.block ?_
              refine WC.seq fun K1079 hK1079 => ?_
              -- region 7
              refine WC.region ?_
              -- R7.0 64 := more.go:63 binOp
              refine WL.v (by first | exact r_eql rfl rfl (decide_eq_true (by omega)) | exact r_eql rfl rfl (decide_eq_false (by omega)) | exact r_eql rfl rfl rfl) rfl rfl rfl ?_
              -- R7.1 63 := more.go:63 assign
              refine WL.v (by first | exact r_assign (v := .bool _) rfl | exact r_assign rfl) rfl rfl rfl ?_
              refine WL.fin hK1079 (fun _ _ h => h) ?_
              refine WC.condF rfl rfl ?_
              refine WC.seq fun K1080 hK1080 => ?_
              refine WC.seq fun K1081 hK1081 => ?_
              -- region 14
              refine WC.region ?_
              -- R14.0 127 := more.go:72 binOp
              refine WL.v (by first | exact r_eql rfl rfl (decide_eq_true (by omega)) | exact r_eql rfl rfl (decide_eq_false (by omega)) | exact r_eql rfl rfl rfl) rfl rfl rfl ?_
              -- R14.1 126 := more.go:72 assign
              refine WL.v (by first | exact r_assign (v := .bool _) rfl | exact r_assign rfl) rfl rfl rfl ?_
              refine WL.fin hK1081 (fun _ _ h => h) ?_
              refine WC.condF rfl rfl ?_
              refine WC.seq fun K1082 hK1082 => ?_
              -- region 15
              refine WC.region ?_
              -- R15.0 128 := more.go:72 binOp
              refine WL.v (by first | exact r_eql rfl rfl (decide_eq_true (by omega)) | exact r_eql rfl rfl (decide_eq_false (by omega)) | exact r_eql rfl rfl rfl) rfl rfl rfl ?_
              -- R15.1 126 := more.go:72 assign
              refine WL.v (by first | exact r_assign (v := .bool _) rfl | exact r_assign rfl) rfl rfl rfl ?_
              refine WL.fin hK1082 (fun _ _ h => h) ?_
              refine WC.condT rfl rfl ?_
              refine WC.skipF hK1080 (fun _ _ h => h) ?_
              refine WC.condT rfl rfl ?_
              refine WC.seq fun K1083 hK1083 => ?_
              -- region 17 (draws)
              refine WC.quietS st ty_mixed (by kernel_rfl) fun Kq hKq => ?_
              -- R17.0 130 := more.go:73 fieldAddr
              refine QL.v (fun w st => by exact r_field ty_fld36_1 rfl) rfl rfl rfl ?_
              -- R17.1 131 := more.go:73 load
              refine QL.v (fun w st => by exact r_load1 (v := .pointer (some ⟨bB, 0, none⟩)) ty_one29 rfl (by rw [← f5]; exact st.c1 (by decide))) rfl rfl rfl ?_
              -- R17.2 132 := more.go:73 nilCheck
              refine QL.v (fun w st => by exact r_nilCheck rfl) rfl rfl rfl ?_
              -- R17.3 133 := more.go:73 fieldAddr
              refine QL.v (fun w st => by exact r_field ty_fld50_0 rfl) rfl rfl rfl ?_
              -- R17.4 134 := more.go:73 load
              refine QL.v (fun w st => by exact r_load1 (v := .int .i64 (s.mode : Nat)) ty_one40 rfl (c_s (hck2 _ _).B (by decide) rfl st)) rfl rfl rfl ?_
              -- R17.5 135 := more.go:73 binOp
              refine QL.v (fun w st => by first | exact r_eql rfl rfl (decide_eq_true (by omega)) | exact r_eql rfl rfl (decide_eq_false (by omega)) | exact r_eql rfl rfl rfl) rfl rfl rfl ?_
              -- R17.6 136 := more.go:73 move
              refine QL.v (fun w st => by first | exact r_move (v := .bool _) rfl | exact r_move rfl) rfl rfl rfl ?_
              -- R17.7 137 := more.go:73 fieldAddr
              refine QL.v (fun w st => by exact r_field ty_fld36_0 rfl) rfl rfl rfl ?_
              -- R17.8 138 := more.go:73 fieldAddr
              refine QL.v (fun w st => by exact r_field ty_fld28_3 rfl) rfl rfl rfl ?_
              -- R17.9 139 := more.go:73 load
              refine QL.v (fun w st => by exact r_load1 (v := .int .i64 o.C) ty_one2 rfl (by rw [← f3]; exact st.c1 (by decide))) rfl rfl rfl ?_
              -- R17.10 140 := more.go:73 fieldAddr
              refine QL.v (fun w st => by exact r_field ty_fld36_1 rfl) rfl rfl rfl ?_
              -- R17.11 141 := more.go:73 load
              refine QL.v (fun w st => by exact r_load1 (v := .pointer (some ⟨bB, 0, none⟩)) ty_one29 rfl (by rw [← f5]; exact st.c1 (by decide))) rfl rfl rfl ?_
              -- R17.12 142 := more.go:73 move
              refine QL.v (fun w st => by exact r_move (v := .int .i64 (t : Nat)) (congrArg (Value.int .i64) hT)) rfl rfl rfl ?_
              -- R17.13 143 := more.go:73 move
              refine QL.v (fun w st => by first | exact r_move (v := .int _ _) rfl | exact r_move rfl) rfl rfl rfl ?_
              -- R17.14 144 := more.go:73 nilCheck
              refine QL.v (fun w st => by exact r_nilCheck rfl) rfl rfl rfl ?_
              -- R17.15 145 := more.go:73 fieldAddr
              refine QL.v (fun w st => by exact r_field ty_fld50_5 rfl) rfl rfl rfl ?_
              -- R17.16 146 := more.go:73 indexAddr
              refine QL.v (fun w st => by exact r_indexA (j := t) ty_ar45 rfl rfl rfl ht16) rfl rfl rfl ?_
              -- R17.17 147 := more.go:73 indexAddr
              refine QL.v (fun w st => by exact r_indexA (j := r) ty_ar44 rfl rfl rfl hr20) rfl rfl rfl ?_
              -- R17.18 148 := more.go:73 load
              refine QL.v (fun w st => by exact r_load1 (v := .int .i64 (s.claim t r : Nat)) ty_one3 rfl (c_sC (hck2 _ _).B ht16 hr20 (by omega) st)) rfl rfl rfl ?_
              -- R17.19 149 := more.go:73 fieldAddr
              refine QL.v (fun w st => by exact r_field ty_fld36_1 rfl) rfl rfl rfl ?_
              -- R17.20 150 := more.go:73 load
              refine QL.v (fun w st => by exact r_load1 (v := .pointer (some ⟨bB, 0, none⟩)) ty_one29 rfl (by rw [← f5]; exact st.c1 (by decide))) rfl rfl rfl ?_
              -- R17.21 151 := more.go:73 move
              refine QL.v (fun w st => by exact r_move (v := .int .i64 (t : Nat)) (congrArg (Value.int .i64) hT)) rfl rfl rfl ?_
              -- R17.22 152 := more.go:73 move
              refine QL.v (fun w st => by first | exact r_move (v := .int _ _) rfl | exact r_move rfl) rfl rfl rfl ?_
              -- R17.23 153 := more.go:73 nilCheck
              refine QL.v (fun w st => by exact r_nilCheck rfl) rfl rfl rfl ?_
              -- R17.24 154 := more.go:73 fieldAddr
              refine QL.v (fun w st => by exact r_field ty_fld50_4 rfl) rfl rfl rfl ?_
              -- R17.25 155 := more.go:73 indexAddr
              refine QL.v (fun w st => by exact r_indexA (j := t) ty_ar45 rfl rfl rfl ht16) rfl rfl rfl ?_
              -- R17.26 156 := more.go:73 indexAddr
              refine QL.v (fun w st => by exact r_indexA (j := r) ty_ar44 rfl rfl rfl hr20) rfl rfl rfl ?_
              -- R17.27 157 := more.go:73 load
              refine QL.v (fun w st => by exact r_load1 (v := .int .i64 (s.held t r : Nat)) ty_one3 rfl (c_sH (hck2 _ _).B ht16 hr20 (by omega) st)) rfl rfl rfl ?_
              -- R17.28 158 := more.go:73 binOp
              refine QL.v (fun w st => by exact r_sub (r := (s.claim t r : Int) - s.held t r) rfl rfl (wi64 (by omega) (by omega))) rfl rfl rfl ?_
              -- R17.29 159 := more.go:73 binOp
              refine QL.v (fun w st => by exact r_gtr rfl rfl (decide_eq_false hnc)) rfl rfl rfl ?_
              -- R17.30 160 := more.go:73 pick
              refine QL.v (fun w st => by first | exact r_pickT (v := .bool _) rfl rfl | exact r_pickF (v := .bool _) rfl rfl) rfl rfl rfl ?_
              -- R17.31 7 := more.go:73 assign
              refine QL.v (fun w st => by first | exact r_assign (v := .bool _) rfl | exact r_assign rfl) rfl rfl rfl ?_
              refine QL.wl hKq fun w st => ?_
              refine WL.fin hK1083 (fun _ _ h => h) ?_
              refine WC.seq fun K1084 hK1084 => ?_
              -- region 18
              refine WC.region ?_
              -- R18.0 161 := more.go:74 fieldAddr
              refine WL.v (by exact r_field ty_fld36_3 rfl) rfl rfl rfl ?_
              -- R18.1 162 := more.go:74 fieldAddr
              refine WL.v (by exact r_field ty_fld34_0 rfl) rfl rfl rfl ?_
              -- R18.2 163 := more.go:74 load
              refine WL.v (by exact r_load1 (v := .int .i64 code) ty_one30 rfl (by rw [← f7]; exact st.c1 (by decide))) rfl rfl rfl ?_
              -- R18.3 164 := more.go:74 binOp
              refine WL.v (by first | exact r_neq rfl rfl (decide_eq_true (by omega)) | exact r_neq rfl rfl (decide_eq_false (by omega)) | exact r_neq rfl rfl rfl) rfl rfl rfl ?_
              -- R18.4 165 := more.go:74 move
              refine WL.v (by first | exact r_move (v := .bool _) rfl | exact r_move rfl) rfl rfl rfl ?_
              -- R18.5 166 := more.go:74 fieldAddr
              refine WL.v (by exact r_field ty_fld36_3 rfl) rfl rfl rfl ?_
              -- R18.6 167 := more.go:74 fieldAddr
              refine WL.v (by exact r_field ty_fld34_0 rfl) rfl rfl rfl ?_
              -- R18.7 168 := more.go:74 load
              refine WL.v (by exact r_load1 (v := .int .i64 code) ty_one30 rfl (by rw [← f7]; exact st.c1 (by decide))) rfl rfl rfl ?_
              -- R18.8 169 := more.go:74 binOp
              refine WL.v (by first | exact r_neq rfl rfl (decide_eq_true (by omega)) | exact r_neq rfl rfl (decide_eq_false (by omega)) | exact r_neq rfl rfl rfl) rfl rfl rfl ?_
              -- R18.9 170 := more.go:74 pick
              refine WL.v (by first | exact r_pickT (v := .bool _) rfl rfl | exact r_pickF (v := .bool _) rfl rfl) rfl rfl rfl ?_
              -- R18.10 8 := more.go:74 assign
              refine WL.v (by first | exact r_assign (v := .bool _) rfl | exact r_assign rfl) rfl rfl rfl ?_
              refine WL.fin hK1084 (fun _ _ h => h) ?_
              refine WC.seq fun K1085 hK1085 => ?_
              -- region 19
              refine WC.region ?_
              -- R19.0 171 := more.go:75 move
              refine WL.v (by first | exact r_move (v := .bool _) rfl | exact r_move rfl) rfl rfl rfl ?_
              -- R19.1 172 := more.go:75 move
              refine WL.v (by first | exact r_move (v := .bool _) rfl | exact r_move rfl) rfl rfl rfl ?_
              -- R19.2 173 := more.go:75 move
              refine WL.no rfl rfl ?_
              -- R19.3 174 := more.go:75 fieldAddr
              refine WL.no rfl rfl ?_
              -- R19.4 175 := more.go:75 fieldAddr
              refine WL.no rfl rfl ?_
              -- R19.5 176 := more.go:75 load
              refine WL.no rfl rfl ?_
              -- R19.6 177 := more.go:75 binOp
              refine WL.no rfl rfl ?_
              -- R19.7 178 := more.go:75 binOp
              refine WL.no rfl rfl ?_
              -- R19.8 179 := more.go:75 pick
              refine WL.v (by first | exact r_pickT (v := .bool _) rfl rfl | exact r_pickF (v := .bool _) rfl rfl) rfl rfl rfl ?_
              refine WL.fin hK1085 (fun _ _ h => h) ?_
              refine WC.condF rfl rfl ?_
              refine WC.skipJ hKC (fun _ _ h => h) () (by rw [hcs]; exact st) (by repeat (first | exact sub_nil _ | refine sub_cons rfl rfl ?_))
            · skip
              refine WC.seq fun K1086 hK1086 => ?_
              -- region 6
              refine WC.region ?_
              -- R6.0 60 := more.go:62 fieldAddr
              refine WL.v (by exact r_field ty_fld36_0 rfl) rfl rfl rfl ?_
              -- R6.1 61 := more.go:62 fieldAddr
              refine WL.v (by exact r_field ty_fld28_0 rfl) rfl rfl rfl ?_
              -- R6.2 62 := more.go:62 load
              refine WL.v (by exact r_load1 (v := .int .u8 (o.kind : Nat)) ty_one25 rfl (by rw [← f0]; exact st.c1 (by decide))) rfl rfl rfl ?_
              refine WL.fin hK1086 (fun _ _ h => h) ?_
              refine WC.block ?_
              refine WC.seq fun K1087 hK1087 => ?_
              -- region 7
              refine WC.region ?_
              -- R7.0 64 := more.go:63 binOp
              refine WL.v (by first | exact r_eql rfl rfl (decide_eq_true (by omega)) | exact r_eql rfl rfl (decide_eq_false (by omega)) | exact r_eql rfl rfl rfl) rfl rfl rfl ?_
              -- R7.1 63 := more.go:63 assign
              refine WL.v (by first | exact r_assign (v := .bool _) rfl | exact r_assign rfl) rfl rfl rfl ?_
              refine WL.fin hK1087 (fun _ _ h => h) ?_
              refine WC.condF rfl rfl ?_
              refine WC.seq fun K1088 hK1088 => ?_
              refine WC.seq fun K1089 hK1089 => ?_
              -- region 14
              refine WC.region ?_
              -- R14.0 127 := more.go:72 binOp
              refine WL.v (by first | exact r_eql rfl rfl (decide_eq_true (by omega)) | exact r_eql rfl rfl (decide_eq_false (by omega)) | exact r_eql rfl rfl rfl) rfl rfl rfl ?_
              -- R14.1 126 := more.go:72 assign
              refine WL.v (by first | exact r_assign (v := .bool _) rfl | exact r_assign rfl) rfl rfl rfl ?_
              refine WL.fin hK1089 (fun _ _ h => h) ?_
              refine WC.condF rfl rfl ?_
              refine WC.seq fun K1090 hK1090 => ?_
              -- region 15
              refine WC.region ?_
              -- R15.0 128 := more.go:72 binOp
              refine WL.v (by first | exact r_eql rfl rfl (decide_eq_true (by omega)) | exact r_eql rfl rfl (decide_eq_false (by omega)) | exact r_eql rfl rfl rfl) rfl rfl rfl ?_
              -- R15.1 126 := more.go:72 assign
              refine WL.v (by first | exact r_assign (v := .bool _) rfl | exact r_assign rfl) rfl rfl rfl ?_
              refine WL.fin hK1090 (fun _ _ h => h) ?_
              refine WC.condF rfl rfl ?_
              -- region 16
              refine WC.region ?_
              -- R16.0 129 := more.go:72 binOp
              refine WL.v (by first | exact r_eql rfl rfl (decide_eq_true (by omega)) | exact r_eql rfl rfl (decide_eq_false (by omega)) | exact r_eql rfl rfl rfl) rfl rfl rfl ?_
              -- R16.1 126 := more.go:72 assign
              refine WL.v (by first | exact r_assign (v := .bool _) rfl | exact r_assign rfl) rfl rfl rfl ?_
              refine WL.fin hK1088 (fun _ _ h => h) ?_
              refine WC.condT rfl rfl ?_
              refine WC.seq fun K1091 hK1091 => ?_
              -- region 17 (draws)
              refine WC.quietS st ty_mixed (by kernel_rfl) fun Kq hKq => ?_
              -- R17.0 130 := more.go:73 fieldAddr
              refine QL.v (fun w st => by exact r_field ty_fld36_1 rfl) rfl rfl rfl ?_
              -- R17.1 131 := more.go:73 load
              refine QL.v (fun w st => by exact r_load1 (v := .pointer (some ⟨bB, 0, none⟩)) ty_one29 rfl (by rw [← f5]; exact st.c1 (by decide))) rfl rfl rfl ?_
              -- R17.2 132 := more.go:73 nilCheck
              refine QL.v (fun w st => by exact r_nilCheck rfl) rfl rfl rfl ?_
              -- R17.3 133 := more.go:73 fieldAddr
              refine QL.v (fun w st => by exact r_field ty_fld50_0 rfl) rfl rfl rfl ?_
              -- R17.4 134 := more.go:73 load
              refine QL.v (fun w st => by exact r_load1 (v := .int .i64 (s.mode : Nat)) ty_one40 rfl (c_s (hck2 _ _).B (by decide) rfl st)) rfl rfl rfl ?_
              -- R17.5 135 := more.go:73 binOp
              refine QL.v (fun w st => by first | exact r_eql rfl rfl (decide_eq_true (by omega)) | exact r_eql rfl rfl (decide_eq_false (by omega)) | exact r_eql rfl rfl rfl) rfl rfl rfl ?_
              -- R17.6 136 := more.go:73 move
              refine QL.v (fun w st => by first | exact r_move (v := .bool _) rfl | exact r_move rfl) rfl rfl rfl ?_
              -- R17.7 137 := more.go:73 fieldAddr
              refine QL.v (fun w st => by exact r_field ty_fld36_0 rfl) rfl rfl rfl ?_
              -- R17.8 138 := more.go:73 fieldAddr
              refine QL.v (fun w st => by exact r_field ty_fld28_3 rfl) rfl rfl rfl ?_
              -- R17.9 139 := more.go:73 load
              refine QL.v (fun w st => by exact r_load1 (v := .int .i64 o.C) ty_one2 rfl (by rw [← f3]; exact st.c1 (by decide))) rfl rfl rfl ?_
              -- R17.10 140 := more.go:73 fieldAddr
              refine QL.v (fun w st => by exact r_field ty_fld36_1 rfl) rfl rfl rfl ?_
              -- R17.11 141 := more.go:73 load
              refine QL.v (fun w st => by exact r_load1 (v := .pointer (some ⟨bB, 0, none⟩)) ty_one29 rfl (by rw [← f5]; exact st.c1 (by decide))) rfl rfl rfl ?_
              -- R17.12 142 := more.go:73 move
              refine QL.v (fun w st => by exact r_move (v := .int .i64 (t : Nat)) (congrArg (Value.int .i64) hT)) rfl rfl rfl ?_
              -- R17.13 143 := more.go:73 move
              refine QL.v (fun w st => by first | exact r_move (v := .int _ _) rfl | exact r_move rfl) rfl rfl rfl ?_
              -- R17.14 144 := more.go:73 nilCheck
              refine QL.v (fun w st => by exact r_nilCheck rfl) rfl rfl rfl ?_
              -- R17.15 145 := more.go:73 fieldAddr
              refine QL.v (fun w st => by exact r_field ty_fld50_5 rfl) rfl rfl rfl ?_
              -- R17.16 146 := more.go:73 indexAddr
              refine QL.v (fun w st => by exact r_indexA (j := t) ty_ar45 rfl rfl rfl ht16) rfl rfl rfl ?_
              -- R17.17 147 := more.go:73 indexAddr
              refine QL.v (fun w st => by exact r_indexA (j := r) ty_ar44 rfl rfl rfl hr20) rfl rfl rfl ?_
              -- R17.18 148 := more.go:73 load
              refine QL.v (fun w st => by exact r_load1 (v := .int .i64 (s.claim t r : Nat)) ty_one3 rfl (c_sC (hck2 _ _).B ht16 hr20 (by omega) st)) rfl rfl rfl ?_
              -- R17.19 149 := more.go:73 fieldAddr
              refine QL.v (fun w st => by exact r_field ty_fld36_1 rfl) rfl rfl rfl ?_
              -- R17.20 150 := more.go:73 load
              refine QL.v (fun w st => by exact r_load1 (v := .pointer (some ⟨bB, 0, none⟩)) ty_one29 rfl (by rw [← f5]; exact st.c1 (by decide))) rfl rfl rfl ?_
              -- R17.21 151 := more.go:73 move
              refine QL.v (fun w st => by exact r_move (v := .int .i64 (t : Nat)) (congrArg (Value.int .i64) hT)) rfl rfl rfl ?_
              -- R17.22 152 := more.go:73 move
              refine QL.v (fun w st => by first | exact r_move (v := .int _ _) rfl | exact r_move rfl) rfl rfl rfl ?_
              -- R17.23 153 := more.go:73 nilCheck
              refine QL.v (fun w st => by exact r_nilCheck rfl) rfl rfl rfl ?_
              -- R17.24 154 := more.go:73 fieldAddr
              refine QL.v (fun w st => by exact r_field ty_fld50_4 rfl) rfl rfl rfl ?_
              -- R17.25 155 := more.go:73 indexAddr
              refine QL.v (fun w st => by exact r_indexA (j := t) ty_ar45 rfl rfl rfl ht16) rfl rfl rfl ?_
              -- R17.26 156 := more.go:73 indexAddr
              refine QL.v (fun w st => by exact r_indexA (j := r) ty_ar44 rfl rfl rfl hr20) rfl rfl rfl ?_
              -- R17.27 157 := more.go:73 load
              refine QL.v (fun w st => by exact r_load1 (v := .int .i64 (s.held t r : Nat)) ty_one3 rfl (c_sH (hck2 _ _).B ht16 hr20 (by omega) st)) rfl rfl rfl ?_
              -- R17.28 158 := more.go:73 binOp
              refine QL.v (fun w st => by exact r_sub (r := (s.claim t r : Int) - s.held t r) rfl rfl (wi64 (by omega) (by omega))) rfl rfl rfl ?_
              -- R17.29 159 := more.go:73 binOp
              refine QL.v (fun w st => by exact r_gtr rfl rfl (decide_eq_false hnc)) rfl rfl rfl ?_
              -- R17.30 160 := more.go:73 pick
              refine QL.v (fun w st => by first | exact r_pickT (v := .bool _) rfl rfl | exact r_pickF (v := .bool _) rfl rfl) rfl rfl rfl ?_
              -- R17.31 7 := more.go:73 assign
              refine QL.v (fun w st => by first | exact r_assign (v := .bool _) rfl | exact r_assign rfl) rfl rfl rfl ?_
              refine QL.wl hKq fun w st => ?_
              refine WL.fin hK1091 (fun _ _ h => h) ?_
              refine WC.seq fun K1092 hK1092 => ?_
              -- region 18
              refine WC.region ?_
              -- R18.0 161 := more.go:74 fieldAddr
              refine WL.v (by exact r_field ty_fld36_3 rfl) rfl rfl rfl ?_
              -- R18.1 162 := more.go:74 fieldAddr
              refine WL.v (by exact r_field ty_fld34_0 rfl) rfl rfl rfl ?_
              -- R18.2 163 := more.go:74 load
              refine WL.v (by exact r_load1 (v := .int .i64 code) ty_one30 rfl (by rw [← f7]; exact st.c1 (by decide))) rfl rfl rfl ?_
              -- R18.3 164 := more.go:74 binOp
              refine WL.v (by first | exact r_neq rfl rfl (decide_eq_true (by omega)) | exact r_neq rfl rfl (decide_eq_false (by omega)) | exact r_neq rfl rfl rfl) rfl rfl rfl ?_
              -- R18.4 165 := more.go:74 move
              refine WL.v (by first | exact r_move (v := .bool _) rfl | exact r_move rfl) rfl rfl rfl ?_
              -- R18.5 166 := more.go:74 fieldAddr
              refine WL.v (by exact r_field ty_fld36_3 rfl) rfl rfl rfl ?_
              -- R18.6 167 := more.go:74 fieldAddr
              refine WL.v (by exact r_field ty_fld34_0 rfl) rfl rfl rfl ?_
              -- R18.7 168 := more.go:74 load
              refine WL.v (by exact r_load1 (v := .int .i64 code) ty_one30 rfl (by rw [← f7]; exact st.c1 (by decide))) rfl rfl rfl ?_
              -- R18.8 169 := more.go:74 binOp
              refine WL.v (by first | exact r_neq rfl rfl (decide_eq_true (by omega)) | exact r_neq rfl rfl (decide_eq_false (by omega)) | exact r_neq rfl rfl rfl) rfl rfl rfl ?_
              -- R18.9 170 := more.go:74 pick
              refine WL.v (by first | exact r_pickT (v := .bool _) rfl rfl | exact r_pickF (v := .bool _) rfl rfl) rfl rfl rfl ?_
              -- R18.10 8 := more.go:74 assign
              refine WL.v (by first | exact r_assign (v := .bool _) rfl | exact r_assign rfl) rfl rfl rfl ?_
              refine WL.fin hK1092 (fun _ _ h => h) ?_
              refine WC.seq fun K1093 hK1093 => ?_
              -- region 19
              refine WC.region ?_
              -- R19.0 171 := more.go:75 move
              refine WL.v (by first | exact r_move (v := .bool _) rfl | exact r_move rfl) rfl rfl rfl ?_
              -- R19.1 172 := more.go:75 move
              refine WL.v (by first | exact r_move (v := .bool _) rfl | exact r_move rfl) rfl rfl rfl ?_
              -- R19.2 173 := more.go:75 move
              refine WL.no rfl rfl ?_
              -- R19.3 174 := more.go:75 fieldAddr
              refine WL.no rfl rfl ?_
              -- R19.4 175 := more.go:75 fieldAddr
              refine WL.no rfl rfl ?_
              -- R19.5 176 := more.go:75 load
              refine WL.no rfl rfl ?_
              -- R19.6 177 := more.go:75 binOp
              refine WL.no rfl rfl ?_
              -- R19.7 178 := more.go:75 binOp
              refine WL.no rfl rfl ?_
              -- R19.8 179 := more.go:75 pick
              refine WL.v (by first | exact r_pickT (v := .bool _) rfl rfl | exact r_pickF (v := .bool _) rfl rfl) rfl rfl rfl ?_
              refine WL.fin hK1093 (fun _ _ h => h) ?_
              refine WC.condF rfl rfl ?_
              refine WC.skipJ hKC (fun _ _ h => h) () (by rw [hcs]; exact st) (by repeat (first | exact sub_nil _ | refine sub_cons rfl rfl ?_))
          have hiff := ha' h14 h15
          have h21 : code ≠ 21 := fun k => hnc (hiff.2 k).2
          rcases (by omega : o.kind = 3 ∨ o.kind = 4 ∨ o.kind = 5) with hk3 | hk4 | hk5
          · skip
            refine WC.seq fun K1094 hK1094 => ?_
            -- region 6
            refine WC.region ?_
            -- R6.0 60 := more.go:62 fieldAddr
            refine WL.v (by exact r_field ty_fld36_0 rfl) rfl rfl rfl ?_
            -- R6.1 61 := more.go:62 fieldAddr
            refine WL.v (by exact r_field ty_fld28_0 rfl) rfl rfl rfl ?_
            -- R6.2 62 := more.go:62 load
            refine WL.v (by exact r_load1 (v := .int .u8 (o.kind : Nat)) ty_one25 rfl (by rw [← f0]; exact st.c1 (by decide))) rfl rfl rfl ?_
            refine WL.fin hK1094 (fun _ _ h => h) ?_
            refine WC.block ?_
            refine WC.seq fun K1095 hK1095 => ?_
            -- region 7
            refine WC.region ?_
            -- R7.0 64 := more.go:63 binOp
            refine WL.v (by first | exact r_eql rfl rfl (decide_eq_true (by omega)) | exact r_eql rfl rfl (decide_eq_false (by omega)) | exact r_eql rfl rfl rfl) rfl rfl rfl ?_
            -- R7.1 63 := more.go:63 assign
            refine WL.v (by first | exact r_assign (v := .bool _) rfl | exact r_assign rfl) rfl rfl rfl ?_
            refine WL.fin hK1095 (fun _ _ h => h) ?_
            refine WC.condF rfl rfl ?_
            refine WC.seq fun K1096 hK1096 => ?_
            refine WC.seq fun K1097 hK1097 => ?_
            -- region 14
            refine WC.region ?_
            -- R14.0 127 := more.go:72 binOp
            refine WL.v (by first | exact r_eql rfl rfl (decide_eq_true (by omega)) | exact r_eql rfl rfl (decide_eq_false (by omega)) | exact r_eql rfl rfl rfl) rfl rfl rfl ?_
            -- R14.1 126 := more.go:72 assign
            refine WL.v (by first | exact r_assign (v := .bool _) rfl | exact r_assign rfl) rfl rfl rfl ?_
            refine WL.fin hK1097 (fun _ _ h => h) ?_
            refine WC.condT rfl rfl ?_
            refine WC.skipF hK1096 (fun _ _ h => h) ?_
            refine WC.condT rfl rfl ?_
            refine WC.seq fun K1098 hK1098 => ?_
            -- region 17 (draws)
            refine WC.quietS st ty_mixed (by kernel_rfl) fun Kq hKq => ?_
            -- R17.0 130 := more.go:73 fieldAddr
            refine QL.v (fun w st => by exact r_field ty_fld36_1 rfl) rfl rfl rfl ?_
            -- R17.1 131 := more.go:73 load
            refine QL.v (fun w st => by exact r_load1 (v := .pointer (some ⟨bB, 0, none⟩)) ty_one29 rfl (by rw [← f5]; exact st.c1 (by decide))) rfl rfl rfl ?_
            -- R17.2 132 := more.go:73 nilCheck
            refine QL.v (fun w st => by exact r_nilCheck rfl) rfl rfl rfl ?_
            -- R17.3 133 := more.go:73 fieldAddr
            refine QL.v (fun w st => by exact r_field ty_fld50_0 rfl) rfl rfl rfl ?_
            -- R17.4 134 := more.go:73 load
            refine QL.v (fun w st => by exact r_load1 (v := .int .i64 (s.mode : Nat)) ty_one40 rfl (c_s (hck2 _ _).B (by decide) rfl st)) rfl rfl rfl ?_
            -- R17.5 135 := more.go:73 binOp
            refine QL.v (fun w st => by first | exact r_eql rfl rfl (decide_eq_true (by omega)) | exact r_eql rfl rfl (decide_eq_false (by omega)) | exact r_eql rfl rfl rfl) rfl rfl rfl ?_
            -- R17.6 136 := more.go:73 move
            refine QL.v (fun w st => by first | exact r_move (v := .bool _) rfl | exact r_move rfl) rfl rfl rfl ?_
            -- R17.7 137 := more.go:73 fieldAddr
            refine QL.v (fun w st => by exact r_field ty_fld36_0 rfl) rfl rfl rfl ?_
            -- R17.8 138 := more.go:73 fieldAddr
            refine QL.v (fun w st => by exact r_field ty_fld28_3 rfl) rfl rfl rfl ?_
            -- R17.9 139 := more.go:73 load
            refine QL.v (fun w st => by exact r_load1 (v := .int .i64 o.C) ty_one2 rfl (by rw [← f3]; exact st.c1 (by decide))) rfl rfl rfl ?_
            -- R17.10 140 := more.go:73 fieldAddr
            refine QL.v (fun w st => by exact r_field ty_fld36_1 rfl) rfl rfl rfl ?_
            -- R17.11 141 := more.go:73 load
            refine QL.v (fun w st => by exact r_load1 (v := .pointer (some ⟨bB, 0, none⟩)) ty_one29 rfl (by rw [← f5]; exact st.c1 (by decide))) rfl rfl rfl ?_
            -- R17.12 142 := more.go:73 move
            refine QL.v (fun w st => by exact r_move (v := .int .i64 (t : Nat)) (congrArg (Value.int .i64) hT)) rfl rfl rfl ?_
            -- R17.13 143 := more.go:73 move
            refine QL.v (fun w st => by first | exact r_move (v := .int _ _) rfl | exact r_move rfl) rfl rfl rfl ?_
            -- R17.14 144 := more.go:73 nilCheck
            refine QL.v (fun w st => by exact r_nilCheck rfl) rfl rfl rfl ?_
            -- R17.15 145 := more.go:73 fieldAddr
            refine QL.v (fun w st => by exact r_field ty_fld50_5 rfl) rfl rfl rfl ?_
            -- R17.16 146 := more.go:73 indexAddr
            refine QL.v (fun w st => by exact r_indexA (j := t) ty_ar45 rfl rfl rfl ht16) rfl rfl rfl ?_
            -- R17.17 147 := more.go:73 indexAddr
            refine QL.v (fun w st => by exact r_indexA (j := r) ty_ar44 rfl rfl rfl hr20) rfl rfl rfl ?_
            -- R17.18 148 := more.go:73 load
            refine QL.v (fun w st => by exact r_load1 (v := .int .i64 (s.claim t r : Nat)) ty_one3 rfl (c_sC (hck2 _ _).B ht16 hr20 (by omega) st)) rfl rfl rfl ?_
            -- R17.19 149 := more.go:73 fieldAddr
            refine QL.v (fun w st => by exact r_field ty_fld36_1 rfl) rfl rfl rfl ?_
            -- R17.20 150 := more.go:73 load
            refine QL.v (fun w st => by exact r_load1 (v := .pointer (some ⟨bB, 0, none⟩)) ty_one29 rfl (by rw [← f5]; exact st.c1 (by decide))) rfl rfl rfl ?_
            -- R17.21 151 := more.go:73 move
            refine QL.v (fun w st => by exact r_move (v := .int .i64 (t : Nat)) (congrArg (Value.int .i64) hT)) rfl rfl rfl ?_
            -- R17.22 152 := more.go:73 move
            refine QL.v (fun w st => by first | exact r_move (v := .int _ _) rfl | exact r_move rfl) rfl rfl rfl ?_
            -- R17.23 153 := more.go:73 nilCheck
            refine QL.v (fun w st => by exact r_nilCheck rfl) rfl rfl rfl ?_
            -- R17.24 154 := more.go:73 fieldAddr
            refine QL.v (fun w st => by exact r_field ty_fld50_4 rfl) rfl rfl rfl ?_
            -- R17.25 155 := more.go:73 indexAddr
            refine QL.v (fun w st => by exact r_indexA (j := t) ty_ar45 rfl rfl rfl ht16) rfl rfl rfl ?_
            -- R17.26 156 := more.go:73 indexAddr
            refine QL.v (fun w st => by exact r_indexA (j := r) ty_ar44 rfl rfl rfl hr20) rfl rfl rfl ?_
            -- R17.27 157 := more.go:73 load
            refine QL.v (fun w st => by exact r_load1 (v := .int .i64 (s.held t r : Nat)) ty_one3 rfl (c_sH (hck2 _ _).B ht16 hr20 (by omega) st)) rfl rfl rfl ?_
            -- R17.28 158 := more.go:73 binOp
            refine QL.v (fun w st => by exact r_sub (r := (s.claim t r : Int) - s.held t r) rfl rfl (wi64 (by omega) (by omega))) rfl rfl rfl ?_
            -- R17.29 159 := more.go:73 binOp
            refine QL.v (fun w st => by exact r_gtr rfl rfl (decide_eq_false hnc)) rfl rfl rfl ?_
            -- R17.30 160 := more.go:73 pick
            refine QL.v (fun w st => by first | exact r_pickT (v := .bool _) rfl rfl | exact r_pickF (v := .bool _) rfl rfl) rfl rfl rfl ?_
            -- R17.31 7 := more.go:73 assign
            refine QL.v (fun w st => by first | exact r_assign (v := .bool _) rfl | exact r_assign rfl) rfl rfl rfl ?_
            refine QL.wl hKq fun w st => ?_
            refine WL.fin hK1098 (fun _ _ h => h) ?_
            refine WC.seq fun K1099 hK1099 => ?_
            -- region 18
            refine WC.region ?_
            -- R18.0 161 := more.go:74 fieldAddr
            refine WL.v (by exact r_field ty_fld36_3 rfl) rfl rfl rfl ?_
            -- R18.1 162 := more.go:74 fieldAddr
            refine WL.v (by exact r_field ty_fld34_0 rfl) rfl rfl rfl ?_
            -- R18.2 163 := more.go:74 load
            refine WL.v (by exact r_load1 (v := .int .i64 code) ty_one30 rfl (by rw [← f7]; exact st.c1 (by decide))) rfl rfl rfl ?_
            -- R18.3 164 := more.go:74 binOp
            refine WL.v (by first | exact r_neq rfl rfl (decide_eq_true (by omega)) | exact r_neq rfl rfl (decide_eq_false (by omega)) | exact r_neq rfl rfl rfl) rfl rfl rfl ?_
            -- R18.4 165 := more.go:74 move
            refine WL.v (by first | exact r_move (v := .bool _) rfl | exact r_move rfl) rfl rfl rfl ?_
            -- R18.5 166 := more.go:74 fieldAddr
            refine WL.v (by exact r_field ty_fld36_3 rfl) rfl rfl rfl ?_
            -- R18.6 167 := more.go:74 fieldAddr
            refine WL.v (by exact r_field ty_fld34_0 rfl) rfl rfl rfl ?_
            -- R18.7 168 := more.go:74 load
            refine WL.v (by exact r_load1 (v := .int .i64 code) ty_one30 rfl (by rw [← f7]; exact st.c1 (by decide))) rfl rfl rfl ?_
            -- R18.8 169 := more.go:74 binOp
            refine WL.v (by first | exact r_neq rfl rfl (decide_eq_true (by omega)) | exact r_neq rfl rfl (decide_eq_false (by omega)) | exact r_neq rfl rfl rfl) rfl rfl rfl ?_
            -- R18.9 170 := more.go:74 pick
            refine WL.v (by first | exact r_pickT (v := .bool _) rfl rfl | exact r_pickF (v := .bool _) rfl rfl) rfl rfl rfl ?_
            -- R18.10 8 := more.go:74 assign
            refine WL.v (by first | exact r_assign (v := .bool _) rfl | exact r_assign rfl) rfl rfl rfl ?_
            refine WL.fin hK1099 (fun _ _ h => h) ?_
            refine WC.seq fun K1100 hK1100 => ?_
            -- region 19
            refine WC.region ?_
            -- R19.0 171 := more.go:75 move
            refine WL.v (by first | exact r_move (v := .bool _) rfl | exact r_move rfl) rfl rfl rfl ?_
            -- R19.1 172 := more.go:75 move
            refine WL.v (by first | exact r_move (v := .bool _) rfl | exact r_move rfl) rfl rfl rfl ?_
            -- R19.2 173 := more.go:75 move
            refine WL.v (by first | exact r_move (v := .bool _) rfl | exact r_move rfl) rfl rfl rfl ?_
            -- R19.3 174 := more.go:75 fieldAddr
            refine WL.v (by exact r_field ty_fld36_3 rfl) rfl rfl rfl ?_
            -- R19.4 175 := more.go:75 fieldAddr
            refine WL.v (by exact r_field ty_fld34_0 rfl) rfl rfl rfl ?_
            -- R19.5 176 := more.go:75 load
            refine WL.v (by exact r_load1 (v := .int .i64 code) ty_one30 rfl (by rw [← f7]; exact st.c1 (by decide))) rfl rfl rfl ?_
            -- R19.6 177 := more.go:75 binOp
            refine WL.v (by first | exact r_eql rfl rfl (decide_eq_true (by omega)) | exact r_eql rfl rfl (decide_eq_false (by omega)) | exact r_eql rfl rfl rfl) rfl rfl rfl ?_
            -- R19.7 178 := more.go:75 binOp
            refine WL.v (by exact r_bneq ty_bool4 rfl rfl rfl) rfl rfl rfl ?_
            -- R19.8 179 := more.go:75 pick
            refine WL.v (by first | exact r_pickT (v := .bool _) rfl rfl | exact r_pickF (v := .bool _) rfl rfl) rfl rfl rfl ?_
            refine WL.fin hK1100 (fun _ _ h => h) ?_
            refine WC.condF rfl rfl ?_
            refine WC.skipJ hKC (fun _ _ h => h) () (by rw [hcs]; exact st) (by repeat (first | exact sub_nil _ | refine sub_cons rfl rfl ?_))
          · skip
            refine WC.seq fun K1101 hK1101 => ?_
            -- region 6
            refine WC.region ?_
            -- R6.0 60 := more.go:62 fieldAddr
            refine WL.v (by exact r_field ty_fld36_0 rfl) rfl rfl rfl ?_
            -- R6.1 61 := more.go:62 fieldAddr
            refine WL.v (by exact r_field ty_fld28_0 rfl) rfl rfl rfl ?_
            -- R6.2 62 := more.go:62 load
            refine WL.v (by exact r_load1 (v := .int .u8 (o.kind : Nat)) ty_one25 rfl (by rw [← f0]; exact st.c1 (by decide))) rfl rfl rfl ?_
            refine WL.fin hK1101 (fun _ _ h => h) ?_
            refine WC.block ?_
            refine WC.seq fun K1102 hK1102 => ?_
            -- region 7
            refine WC.region ?_
            -- R7.0 64 := more.go:63 binOp
            refine WL.v (by first | exact r_eql rfl rfl (decide_eq_true (by omega)) | exact r_eql rfl rfl (decide_eq_false (by omega)) | exact r_eql rfl rfl rfl) rfl rfl rfl ?_
            -- R7.1 63 := more.go:63 assign
            refine WL.v (by first | exact r_assign (v := .bool _) rfl | exact r_assign rfl) rfl rfl rfl ?_
            refine WL.fin hK1102 (fun _ _ h => h) ?_
            refine WC.condF rfl rfl ?_
            refine WC.seq fun K1103 hK1103 => ?_
            refine WC.seq fun K1104 hK1104 => ?_
            -- region 14
            refine WC.region ?_
            -- R14.0 127 := more.go:72 binOp
            refine WL.v (by first | exact r_eql rfl rfl (decide_eq_true (by omega)) | exact r_eql rfl rfl (decide_eq_false (by omega)) | exact r_eql rfl rfl rfl) rfl rfl rfl ?_
            -- R14.1 126 := more.go:72 assign
            refine WL.v (by first | exact r_assign (v := .bool _) rfl | exact r_assign rfl) rfl rfl rfl ?_
            refine WL.fin hK1104 (fun _ _ h => h) ?_
            refine WC.condF rfl rfl ?_
            refine WC.seq fun K1105 hK1105 => ?_
            -- region 15
            refine WC.region ?_
            -- R15.0 128 := more.go:72 binOp
            refine WL.v (by first | exact r_eql rfl rfl (decide_eq_true (by omega)) | exact r_eql rfl rfl (decide_eq_false (by omega)) | exact r_eql rfl rfl rfl) rfl rfl rfl ?_
            -- R15.1 126 := more.go:72 assign
            refine WL.v (by first | exact r_assign (v := .bool _) rfl | exact r_assign rfl) rfl rfl rfl ?_
            refine WL.fin hK1105 (fun _ _ h => h) ?_
            refine WC.condT rfl rfl ?_
            refine WC.skipF hK1103 (fun _ _ h => h) ?_
            refine WC.condT rfl rfl ?_
            refine WC.seq fun K1106 hK1106 => ?_
            -- region 17 (draws)
            refine WC.quietS st ty_mixed (by kernel_rfl) fun Kq hKq => ?_
            -- R17.0 130 := more.go:73 fieldAddr
            refine QL.v (fun w st => by exact r_field ty_fld36_1 rfl) rfl rfl rfl ?_
            -- R17.1 131 := more.go:73 load
            refine QL.v (fun w st => by exact r_load1 (v := .pointer (some ⟨bB, 0, none⟩)) ty_one29 rfl (by rw [← f5]; exact st.c1 (by decide))) rfl rfl rfl ?_
            -- R17.2 132 := more.go:73 nilCheck
            refine QL.v (fun w st => by exact r_nilCheck rfl) rfl rfl rfl ?_
            -- R17.3 133 := more.go:73 fieldAddr
            refine QL.v (fun w st => by exact r_field ty_fld50_0 rfl) rfl rfl rfl ?_
            -- R17.4 134 := more.go:73 load
            refine QL.v (fun w st => by exact r_load1 (v := .int .i64 (s.mode : Nat)) ty_one40 rfl (c_s (hck2 _ _).B (by decide) rfl st)) rfl rfl rfl ?_
            -- R17.5 135 := more.go:73 binOp
            refine QL.v (fun w st => by first | exact r_eql rfl rfl (decide_eq_true (by omega)) | exact r_eql rfl rfl (decide_eq_false (by omega)) | exact r_eql rfl rfl rfl) rfl rfl rfl ?_
            -- R17.6 136 := more.go:73 move
            refine QL.v (fun w st => by first | exact r_move (v := .bool _) rfl | exact r_move rfl) rfl rfl rfl ?_
            -- R17.7 137 := more.go:73 fieldAddr
            refine QL.v (fun w st => by exact r_field ty_fld36_0 rfl) rfl rfl rfl ?_
            -- R17.8 138 := more.go:73 fieldAddr
            refine QL.v (fun w st => by exact r_field ty_fld28_3 rfl) rfl rfl rfl ?_
            -- R17.9 139 := more.go:73 load
            refine QL.v (fun w st => by exact r_load1 (v := .int .i64 o.C) ty_one2 rfl (by rw [← f3]; exact st.c1 (by decide))) rfl rfl rfl ?_
            -- R17.10 140 := more.go:73 fieldAddr
            refine QL.v (fun w st => by exact r_field ty_fld36_1 rfl) rfl rfl rfl ?_
            -- R17.11 141 := more.go:73 load
            refine QL.v (fun w st => by exact r_load1 (v := .pointer (some ⟨bB, 0, none⟩)) ty_one29 rfl (by rw [← f5]; exact st.c1 (by decide))) rfl rfl rfl ?_
            -- R17.12 142 := more.go:73 move
            refine QL.v (fun w st => by exact r_move (v := .int .i64 (t : Nat)) (congrArg (Value.int .i64) hT)) rfl rfl rfl ?_
            -- R17.13 143 := more.go:73 move
            refine QL.v (fun w st => by first | exact r_move (v := .int _ _) rfl | exact r_move rfl) rfl rfl rfl ?_
            -- R17.14 144 := more.go:73 nilCheck
            refine QL.v (fun w st => by exact r_nilCheck rfl) rfl rfl rfl ?_
            -- R17.15 145 := more.go:73 fieldAddr
            refine QL.v (fun w st => by exact r_field ty_fld50_5 rfl) rfl rfl rfl ?_
            -- R17.16 146 := more.go:73 indexAddr
            refine QL.v (fun w st => by exact r_indexA (j := t) ty_ar45 rfl rfl rfl ht16) rfl rfl rfl ?_
            -- R17.17 147 := more.go:73 indexAddr
            refine QL.v (fun w st => by exact r_indexA (j := r) ty_ar44 rfl rfl rfl hr20) rfl rfl rfl ?_
            -- R17.18 148 := more.go:73 load
            refine QL.v (fun w st => by exact r_load1 (v := .int .i64 (s.claim t r : Nat)) ty_one3 rfl (c_sC (hck2 _ _).B ht16 hr20 (by omega) st)) rfl rfl rfl ?_
            -- R17.19 149 := more.go:73 fieldAddr
            refine QL.v (fun w st => by exact r_field ty_fld36_1 rfl) rfl rfl rfl ?_
            -- R17.20 150 := more.go:73 load
            refine QL.v (fun w st => by exact r_load1 (v := .pointer (some ⟨bB, 0, none⟩)) ty_one29 rfl (by rw [← f5]; exact st.c1 (by decide))) rfl rfl rfl ?_
            -- R17.21 151 := more.go:73 move
            refine QL.v (fun w st => by exact r_move (v := .int .i64 (t : Nat)) (congrArg (Value.int .i64) hT)) rfl rfl rfl ?_
            -- R17.22 152 := more.go:73 move
            refine QL.v (fun w st => by first | exact r_move (v := .int _ _) rfl | exact r_move rfl) rfl rfl rfl ?_
            -- R17.23 153 := more.go:73 nilCheck
            refine QL.v (fun w st => by exact r_nilCheck rfl) rfl rfl rfl ?_
            -- R17.24 154 := more.go:73 fieldAddr
            refine QL.v (fun w st => by exact r_field ty_fld50_4 rfl) rfl rfl rfl ?_
            -- R17.25 155 := more.go:73 indexAddr
            refine QL.v (fun w st => by exact r_indexA (j := t) ty_ar45 rfl rfl rfl ht16) rfl rfl rfl ?_
            -- R17.26 156 := more.go:73 indexAddr
            refine QL.v (fun w st => by exact r_indexA (j := r) ty_ar44 rfl rfl rfl hr20) rfl rfl rfl ?_
            -- R17.27 157 := more.go:73 load
            refine QL.v (fun w st => by exact r_load1 (v := .int .i64 (s.held t r : Nat)) ty_one3 rfl (c_sH (hck2 _ _).B ht16 hr20 (by omega) st)) rfl rfl rfl ?_
            -- R17.28 158 := more.go:73 binOp
            refine QL.v (fun w st => by exact r_sub (r := (s.claim t r : Int) - s.held t r) rfl rfl (wi64 (by omega) (by omega))) rfl rfl rfl ?_
            -- R17.29 159 := more.go:73 binOp
            refine QL.v (fun w st => by exact r_gtr rfl rfl (decide_eq_false hnc)) rfl rfl rfl ?_
            -- R17.30 160 := more.go:73 pick
            refine QL.v (fun w st => by first | exact r_pickT (v := .bool _) rfl rfl | exact r_pickF (v := .bool _) rfl rfl) rfl rfl rfl ?_
            -- R17.31 7 := more.go:73 assign
            refine QL.v (fun w st => by first | exact r_assign (v := .bool _) rfl | exact r_assign rfl) rfl rfl rfl ?_
            refine QL.wl hKq fun w st => ?_
            refine WL.fin hK1106 (fun _ _ h => h) ?_
            refine WC.seq fun K1107 hK1107 => ?_
            -- region 18
            refine WC.region ?_
            -- R18.0 161 := more.go:74 fieldAddr
            refine WL.v (by exact r_field ty_fld36_3 rfl) rfl rfl rfl ?_
            -- R18.1 162 := more.go:74 fieldAddr
            refine WL.v (by exact r_field ty_fld34_0 rfl) rfl rfl rfl ?_
            -- R18.2 163 := more.go:74 load
            refine WL.v (by exact r_load1 (v := .int .i64 code) ty_one30 rfl (by rw [← f7]; exact st.c1 (by decide))) rfl rfl rfl ?_
            -- R18.3 164 := more.go:74 binOp
            refine WL.v (by first | exact r_neq rfl rfl (decide_eq_true (by omega)) | exact r_neq rfl rfl (decide_eq_false (by omega)) | exact r_neq rfl rfl rfl) rfl rfl rfl ?_
            -- R18.4 165 := more.go:74 move
            refine WL.v (by first | exact r_move (v := .bool _) rfl | exact r_move rfl) rfl rfl rfl ?_
            -- R18.5 166 := more.go:74 fieldAddr
            refine WL.v (by exact r_field ty_fld36_3 rfl) rfl rfl rfl ?_
            -- R18.6 167 := more.go:74 fieldAddr
            refine WL.v (by exact r_field ty_fld34_0 rfl) rfl rfl rfl ?_
            -- R18.7 168 := more.go:74 load
            refine WL.v (by exact r_load1 (v := .int .i64 code) ty_one30 rfl (by rw [← f7]; exact st.c1 (by decide))) rfl rfl rfl ?_
            -- R18.8 169 := more.go:74 binOp
            refine WL.v (by first | exact r_neq rfl rfl (decide_eq_true (by omega)) | exact r_neq rfl rfl (decide_eq_false (by omega)) | exact r_neq rfl rfl rfl) rfl rfl rfl ?_
            -- R18.9 170 := more.go:74 pick
            refine WL.v (by first | exact r_pickT (v := .bool _) rfl rfl | exact r_pickF (v := .bool _) rfl rfl) rfl rfl rfl ?_
            -- R18.10 8 := more.go:74 assign
            refine WL.v (by first | exact r_assign (v := .bool _) rfl | exact r_assign rfl) rfl rfl rfl ?_
            refine WL.fin hK1107 (fun _ _ h => h) ?_
            refine WC.seq fun K1108 hK1108 => ?_
            -- region 19
            refine WC.region ?_
            -- R19.0 171 := more.go:75 move
            refine WL.v (by first | exact r_move (v := .bool _) rfl | exact r_move rfl) rfl rfl rfl ?_
            -- R19.1 172 := more.go:75 move
            refine WL.v (by first | exact r_move (v := .bool _) rfl | exact r_move rfl) rfl rfl rfl ?_
            -- R19.2 173 := more.go:75 move
            refine WL.v (by first | exact r_move (v := .bool _) rfl | exact r_move rfl) rfl rfl rfl ?_
            -- R19.3 174 := more.go:75 fieldAddr
            refine WL.v (by exact r_field ty_fld36_3 rfl) rfl rfl rfl ?_
            -- R19.4 175 := more.go:75 fieldAddr
            refine WL.v (by exact r_field ty_fld34_0 rfl) rfl rfl rfl ?_
            -- R19.5 176 := more.go:75 load
            refine WL.v (by exact r_load1 (v := .int .i64 code) ty_one30 rfl (by rw [← f7]; exact st.c1 (by decide))) rfl rfl rfl ?_
            -- R19.6 177 := more.go:75 binOp
            refine WL.v (by first | exact r_eql rfl rfl (decide_eq_true (by omega)) | exact r_eql rfl rfl (decide_eq_false (by omega)) | exact r_eql rfl rfl rfl) rfl rfl rfl ?_
            -- R19.7 178 := more.go:75 binOp
            refine WL.v (by exact r_bneq ty_bool4 rfl rfl rfl) rfl rfl rfl ?_
            -- R19.8 179 := more.go:75 pick
            refine WL.v (by first | exact r_pickT (v := .bool _) rfl rfl | exact r_pickF (v := .bool _) rfl rfl) rfl rfl rfl ?_
            refine WL.fin hK1108 (fun _ _ h => h) ?_
            refine WC.condF rfl rfl ?_
            refine WC.skipJ hKC (fun _ _ h => h) () (by rw [hcs]; exact st) (by repeat (first | exact sub_nil _ | refine sub_cons rfl rfl ?_))
          · skip
            refine WC.seq fun K1109 hK1109 => ?_
            -- region 6
            refine WC.region ?_
            -- R6.0 60 := more.go:62 fieldAddr
            refine WL.v (by exact r_field ty_fld36_0 rfl) rfl rfl rfl ?_
            -- R6.1 61 := more.go:62 fieldAddr
            refine WL.v (by exact r_field ty_fld28_0 rfl) rfl rfl rfl ?_
            -- R6.2 62 := more.go:62 load
            refine WL.v (by exact r_load1 (v := .int .u8 (o.kind : Nat)) ty_one25 rfl (by rw [← f0]; exact st.c1 (by decide))) rfl rfl rfl ?_
            refine WL.fin hK1109 (fun _ _ h => h) ?_
            refine WC.block ?_
            refine WC.seq fun K1110 hK1110 => ?_
            -- region 7
            refine WC.region ?_
            -- R7.0 64 := more.go:63 binOp
            refine WL.v (by first | exact r_eql rfl rfl (decide_eq_true (by omega)) | exact r_eql rfl rfl (decide_eq_false (by omega)) | exact r_eql rfl rfl rfl) rfl rfl rfl ?_
            -- R7.1 63 := more.go:63 assign
            refine WL.v (by first | exact r_assign (v := .bool _) rfl | exact r_assign rfl) rfl rfl rfl ?_
            refine WL.fin hK1110 (fun _ _ h => h) ?_
            refine WC.condF rfl rfl ?_
            refine WC.seq fun K1111 hK1111 => ?_
            refine WC.seq fun K1112 hK1112 => ?_
            -- region 14
            refine WC.region ?_
            -- R14.0 127 := more.go:72 binOp
            refine WL.v (by first | exact r_eql rfl rfl (decide_eq_true (by omega)) | exact r_eql rfl rfl (decide_eq_false (by omega)) | exact r_eql rfl rfl rfl) rfl rfl rfl ?_
            -- R14.1 126 := more.go:72 assign
            refine WL.v (by first | exact r_assign (v := .bool _) rfl | exact r_assign rfl) rfl rfl rfl ?_
            refine WL.fin hK1112 (fun _ _ h => h) ?_
            refine WC.condF rfl rfl ?_
            refine WC.seq fun K1113 hK1113 => ?_
            -- region 15
            refine WC.region ?_
            -- R15.0 128 := more.go:72 binOp
            refine WL.v (by first | exact r_eql rfl rfl (decide_eq_true (by omega)) | exact r_eql rfl rfl (decide_eq_false (by omega)) | exact r_eql rfl rfl rfl) rfl rfl rfl ?_
            -- R15.1 126 := more.go:72 assign
            refine WL.v (by first | exact r_assign (v := .bool _) rfl | exact r_assign rfl) rfl rfl rfl ?_
            refine WL.fin hK1113 (fun _ _ h => h) ?_
            refine WC.condF rfl rfl ?_
            -- region 16
            refine WC.region ?_
            -- R16.0 129 := more.go:72 binOp
            refine WL.v (by first | exact r_eql rfl rfl (decide_eq_true (by omega)) | exact r_eql rfl rfl (decide_eq_false (by omega)) | exact r_eql rfl rfl rfl) rfl rfl rfl ?_
            -- R16.1 126 := more.go:72 assign
            refine WL.v (by first | exact r_assign (v := .bool _) rfl | exact r_assign rfl) rfl rfl rfl ?_
            refine WL.fin hK1111 (fun _ _ h => h) ?_
            refine WC.condT rfl rfl ?_
            refine WC.seq fun K1114 hK1114 => ?_
            -- region 17 (draws)
            refine WC.quietS st ty_mixed (by kernel_rfl) fun Kq hKq => ?_
            -- R17.0 130 := more.go:73 fieldAddr
            refine QL.v (fun w st => by exact r_field ty_fld36_1 rfl) rfl rfl rfl ?_
            -- R17.1 131 := more.go:73 load
            refine QL.v (fun w st => by exact r_load1 (v := .pointer (some ⟨bB, 0, none⟩)) ty_one29 rfl (by rw [← f5]; exact st.c1 (by decide))) rfl rfl rfl ?_
            -- R17.2 132 := more.go:73 nilCheck
            refine QL.v (fun w st => by exact r_nilCheck rfl) rfl rfl rfl ?_
            -- R17.3 133 := more.go:73 fieldAddr
            refine QL.v (fun w st => by exact r_field ty_fld50_0 rfl) rfl rfl rfl ?_
            -- R17.4 134 := more.go:73 load
            refine QL.v (fun w st => by exact r_load1 (v := .int .i64 (s.mode : Nat)) ty_one40 rfl (c_s (hck2 _ _).B (by decide) rfl st)) rfl rfl rfl ?_
            -- R17.5 135 := more.go:73 binOp
            refine QL.v (fun w st => by first | exact r_eql rfl rfl (decide_eq_true (by omega)) | exact r_eql rfl rfl (decide_eq_false (by omega)) | exact r_eql rfl rfl rfl) rfl rfl rfl ?_
            -- R17.6 136 := more.go:73 move
            refine QL.v (fun w st => by first | exact r_move (v := .bool _) rfl | exact r_move rfl) rfl rfl rfl ?_
            -- R17.7 137 := more.go:73 fieldAddr
            refine QL.v (fun w st => by exact r_field ty_fld36_0 rfl) rfl rfl rfl ?_
            -- R17.8 138 := more.go:73 fieldAddr
            refine QL.v (fun w st => by exact r_field ty_fld28_3 rfl) rfl rfl rfl ?_
            -- R17.9 139 := more.go:73 load
            refine QL.v (fun w st => by exact r_load1 (v := .int .i64 o.C) ty_one2 rfl (by rw [← f3]; exact st.c1 (by decide))) rfl rfl rfl ?_
            -- R17.10 140 := more.go:73 fieldAddr
            refine QL.v (fun w st => by exact r_field ty_fld36_1 rfl) rfl rfl rfl ?_
            -- R17.11 141 := more.go:73 load
            refine QL.v (fun w st => by exact r_load1 (v := .pointer (some ⟨bB, 0, none⟩)) ty_one29 rfl (by rw [← f5]; exact st.c1 (by decide))) rfl rfl rfl ?_
            -- R17.12 142 := more.go:73 move
            refine QL.v (fun w st => by exact r_move (v := .int .i64 (t : Nat)) (congrArg (Value.int .i64) hT)) rfl rfl rfl ?_
            -- R17.13 143 := more.go:73 move
            refine QL.v (fun w st => by first | exact r_move (v := .int _ _) rfl | exact r_move rfl) rfl rfl rfl ?_
            -- R17.14 144 := more.go:73 nilCheck
            refine QL.v (fun w st => by exact r_nilCheck rfl) rfl rfl rfl ?_
            -- R17.15 145 := more.go:73 fieldAddr
            refine QL.v (fun w st => by exact r_field ty_fld50_5 rfl) rfl rfl rfl ?_
            -- R17.16 146 := more.go:73 indexAddr
            refine QL.v (fun w st => by exact r_indexA (j := t) ty_ar45 rfl rfl rfl ht16) rfl rfl rfl ?_
            -- R17.17 147 := more.go:73 indexAddr
            refine QL.v (fun w st => by exact r_indexA (j := r) ty_ar44 rfl rfl rfl hr20) rfl rfl rfl ?_
            -- R17.18 148 := more.go:73 load
            refine QL.v (fun w st => by exact r_load1 (v := .int .i64 (s.claim t r : Nat)) ty_one3 rfl (c_sC (hck2 _ _).B ht16 hr20 (by omega) st)) rfl rfl rfl ?_
            -- R17.19 149 := more.go:73 fieldAddr
            refine QL.v (fun w st => by exact r_field ty_fld36_1 rfl) rfl rfl rfl ?_
            -- R17.20 150 := more.go:73 load
            refine QL.v (fun w st => by exact r_load1 (v := .pointer (some ⟨bB, 0, none⟩)) ty_one29 rfl (by rw [← f5]; exact st.c1 (by decide))) rfl rfl rfl ?_
            -- R17.21 151 := more.go:73 move
            refine QL.v (fun w st => by exact r_move (v := .int .i64 (t : Nat)) (congrArg (Value.int .i64) hT)) rfl rfl rfl ?_
            -- R17.22 152 := more.go:73 move
            refine QL.v (fun w st => by first | exact r_move (v := .int _ _) rfl | exact r_move rfl) rfl rfl rfl ?_
            -- R17.23 153 := more.go:73 nilCheck
            refine QL.v (fun w st => by exact r_nilCheck rfl) rfl rfl rfl ?_
            -- R17.24 154 := more.go:73 fieldAddr
            refine QL.v (fun w st => by exact r_field ty_fld50_4 rfl) rfl rfl rfl ?_
            -- R17.25 155 := more.go:73 indexAddr
            refine QL.v (fun w st => by exact r_indexA (j := t) ty_ar45 rfl rfl rfl ht16) rfl rfl rfl ?_
            -- R17.26 156 := more.go:73 indexAddr
            refine QL.v (fun w st => by exact r_indexA (j := r) ty_ar44 rfl rfl rfl hr20) rfl rfl rfl ?_
            -- R17.27 157 := more.go:73 load
            refine QL.v (fun w st => by exact r_load1 (v := .int .i64 (s.held t r : Nat)) ty_one3 rfl (c_sH (hck2 _ _).B ht16 hr20 (by omega) st)) rfl rfl rfl ?_
            -- R17.28 158 := more.go:73 binOp
            refine QL.v (fun w st => by exact r_sub (r := (s.claim t r : Int) - s.held t r) rfl rfl (wi64 (by omega) (by omega))) rfl rfl rfl ?_
            -- R17.29 159 := more.go:73 binOp
            refine QL.v (fun w st => by exact r_gtr rfl rfl (decide_eq_false hnc)) rfl rfl rfl ?_
            -- R17.30 160 := more.go:73 pick
            refine QL.v (fun w st => by first | exact r_pickT (v := .bool _) rfl rfl | exact r_pickF (v := .bool _) rfl rfl) rfl rfl rfl ?_
            -- R17.31 7 := more.go:73 assign
            refine QL.v (fun w st => by first | exact r_assign (v := .bool _) rfl | exact r_assign rfl) rfl rfl rfl ?_
            refine QL.wl hKq fun w st => ?_
            refine WL.fin hK1114 (fun _ _ h => h) ?_
            refine WC.seq fun K1115 hK1115 => ?_
            -- region 18
            refine WC.region ?_
            -- R18.0 161 := more.go:74 fieldAddr
            refine WL.v (by exact r_field ty_fld36_3 rfl) rfl rfl rfl ?_
            -- R18.1 162 := more.go:74 fieldAddr
            refine WL.v (by exact r_field ty_fld34_0 rfl) rfl rfl rfl ?_
            -- R18.2 163 := more.go:74 load
            refine WL.v (by exact r_load1 (v := .int .i64 code) ty_one30 rfl (by rw [← f7]; exact st.c1 (by decide))) rfl rfl rfl ?_
            -- R18.3 164 := more.go:74 binOp
            refine WL.v (by first | exact r_neq rfl rfl (decide_eq_true (by omega)) | exact r_neq rfl rfl (decide_eq_false (by omega)) | exact r_neq rfl rfl rfl) rfl rfl rfl ?_
            -- R18.4 165 := more.go:74 move
            refine WL.v (by first | exact r_move (v := .bool _) rfl | exact r_move rfl) rfl rfl rfl ?_
            -- R18.5 166 := more.go:74 fieldAddr
            refine WL.v (by exact r_field ty_fld36_3 rfl) rfl rfl rfl ?_
            -- R18.6 167 := more.go:74 fieldAddr
            refine WL.v (by exact r_field ty_fld34_0 rfl) rfl rfl rfl ?_
            -- R18.7 168 := more.go:74 load
            refine WL.v (by exact r_load1 (v := .int .i64 code) ty_one30 rfl (by rw [← f7]; exact st.c1 (by decide))) rfl rfl rfl ?_
            -- R18.8 169 := more.go:74 binOp
            refine WL.v (by first | exact r_neq rfl rfl (decide_eq_true (by omega)) | exact r_neq rfl rfl (decide_eq_false (by omega)) | exact r_neq rfl rfl rfl) rfl rfl rfl ?_
            -- R18.9 170 := more.go:74 pick
            refine WL.v (by first | exact r_pickT (v := .bool _) rfl rfl | exact r_pickF (v := .bool _) rfl rfl) rfl rfl rfl ?_
            -- R18.10 8 := more.go:74 assign
            refine WL.v (by first | exact r_assign (v := .bool _) rfl | exact r_assign rfl) rfl rfl rfl ?_
            refine WL.fin hK1115 (fun _ _ h => h) ?_
            refine WC.seq fun K1116 hK1116 => ?_
            -- region 19
            refine WC.region ?_
            -- R19.0 171 := more.go:75 move
            refine WL.v (by first | exact r_move (v := .bool _) rfl | exact r_move rfl) rfl rfl rfl ?_
            -- R19.1 172 := more.go:75 move
            refine WL.v (by first | exact r_move (v := .bool _) rfl | exact r_move rfl) rfl rfl rfl ?_
            -- R19.2 173 := more.go:75 move
            refine WL.v (by first | exact r_move (v := .bool _) rfl | exact r_move rfl) rfl rfl rfl ?_
            -- R19.3 174 := more.go:75 fieldAddr
            refine WL.v (by exact r_field ty_fld36_3 rfl) rfl rfl rfl ?_
            -- R19.4 175 := more.go:75 fieldAddr
            refine WL.v (by exact r_field ty_fld34_0 rfl) rfl rfl rfl ?_
            -- R19.5 176 := more.go:75 load
            refine WL.v (by exact r_load1 (v := .int .i64 code) ty_one30 rfl (by rw [← f7]; exact st.c1 (by decide))) rfl rfl rfl ?_
            -- R19.6 177 := more.go:75 binOp
            refine WL.v (by first | exact r_eql rfl rfl (decide_eq_true (by omega)) | exact r_eql rfl rfl (decide_eq_false (by omega)) | exact r_eql rfl rfl rfl) rfl rfl rfl ?_
            -- R19.7 178 := more.go:75 binOp
            refine WL.v (by exact r_bneq ty_bool4 rfl rfl rfl) rfl rfl rfl ?_
            -- R19.8 179 := more.go:75 pick
            refine WL.v (by first | exact r_pickT (v := .bool _) rfl rfl | exact r_pickF (v := .bool _) rfl rfl) rfl rfl rfl ?_
            refine WL.fin hK1116 (fun _ _ h => h) ?_
            refine WC.condF rfl rfl ?_
            refine WC.skipJ hKC (fun _ _ h => h) () (by rw [hcs]; exact st) (by repeat (first | exact sub_nil _ | refine sub_cons rfl rfl ?_))
        · skip
          by_cases h14 : code = 14
          · skip
            rcases (by omega : o.kind = 3 ∨ o.kind = 4 ∨ o.kind = 5) with hk3 | hk4 | hk5
            · skip
              refine WC.seq fun K1117 hK1117 => ?_
              -- region 6
              refine WC.region ?_
              -- R6.0 60 := more.go:62 fieldAddr
              refine WL.v (by exact r_field ty_fld36_0 rfl) rfl rfl rfl ?_
              -- R6.1 61 := more.go:62 fieldAddr
              refine WL.v (by exact r_field ty_fld28_0 rfl) rfl rfl rfl ?_
              -- R6.2 62 := more.go:62 load
              refine WL.v (by exact r_load1 (v := .int .u8 (o.kind : Nat)) ty_one25 rfl (by rw [← f0]; exact st.c1 (by decide))) rfl rfl rfl ?_
              refine WL.fin hK1117 (fun _ _ h => h) ?_
              refine WC.block ?_
              refine WC.seq fun K1118 hK1118 => ?_
              -- region 7
              refine WC.region ?_
              -- R7.0 64 := more.go:63 binOp
              refine WL.v (by first | exact r_eql rfl rfl (decide_eq_true (by omega)) | exact r_eql rfl rfl (decide_eq_false (by omega)) | exact r_eql rfl rfl rfl) rfl rfl rfl ?_
              -- R7.1 63 := more.go:63 assign
              refine WL.v (by first | exact r_assign (v := .bool _) rfl | exact r_assign rfl) rfl rfl rfl ?_
              refine WL.fin hK1118 (fun _ _ h => h) ?_
              refine WC.condF rfl rfl ?_
              refine WC.seq fun K1119 hK1119 => ?_
              refine WC.seq fun K1120 hK1120 => ?_
              -- region 14
              refine WC.region ?_
              -- R14.0 127 := more.go:72 binOp
              refine WL.v (by first | exact r_eql rfl rfl (decide_eq_true (by omega)) | exact r_eql rfl rfl (decide_eq_false (by omega)) | exact r_eql rfl rfl rfl) rfl rfl rfl ?_
              -- R14.1 126 := more.go:72 assign
              refine WL.v (by first | exact r_assign (v := .bool _) rfl | exact r_assign rfl) rfl rfl rfl ?_
              refine WL.fin hK1120 (fun _ _ h => h) ?_
              refine WC.condT rfl rfl ?_
              refine WC.skipF hK1119 (fun _ _ h => h) ?_
              refine WC.condT rfl rfl ?_
              refine WC.seq fun K1121 hK1121 => ?_
              -- region 17 (draws)
              refine WC.quietS st ty_mixed (by kernel_rfl) fun Kq hKq => ?_
              -- R17.0 130 := more.go:73 fieldAddr
              refine QL.v (fun w st => by exact r_field ty_fld36_1 rfl) rfl rfl rfl ?_
              -- R17.1 131 := more.go:73 load
              refine QL.v (fun w st => by exact r_load1 (v := .pointer (some ⟨bB, 0, none⟩)) ty_one29 rfl (by rw [← f5]; exact st.c1 (by decide))) rfl rfl rfl ?_
              -- R17.2 132 := more.go:73 nilCheck
              refine QL.v (fun w st => by exact r_nilCheck rfl) rfl rfl rfl ?_
              -- R17.3 133 := more.go:73 fieldAddr
              refine QL.v (fun w st => by exact r_field ty_fld50_0 rfl) rfl rfl rfl ?_
              -- R17.4 134 := more.go:73 load
              refine QL.v (fun w st => by exact r_load1 (v := .int .i64 (s.mode : Nat)) ty_one40 rfl (c_s (hck2 _ _).B (by decide) rfl st)) rfl rfl rfl ?_
              -- R17.5 135 := more.go:73 binOp
              refine QL.v (fun w st => by first | exact r_eql rfl rfl (decide_eq_true (by omega)) | exact r_eql rfl rfl (decide_eq_false (by omega)) | exact r_eql rfl rfl rfl) rfl rfl rfl ?_
              -- R17.6 136 := more.go:73 move
              refine QL.v (fun w st => by first | exact r_move (v := .bool _) rfl | exact r_move rfl) rfl rfl rfl ?_
              -- R17.7 137 := more.go:73 fieldAddr
              refine QL.v (fun w st => by exact r_field ty_fld36_0 rfl) rfl rfl rfl ?_
              -- R17.8 138 := more.go:73 fieldAddr
              refine QL.v (fun w st => by exact r_field ty_fld28_3 rfl) rfl rfl rfl ?_
              -- R17.9 139 := more.go:73 load
              refine QL.v (fun w st => by exact r_load1 (v := .int .i64 o.C) ty_one2 rfl (by rw [← f3]; exact st.c1 (by decide))) rfl rfl rfl ?_
              -- R17.10 140 := more.go:73 fieldAddr
              refine QL.v (fun w st => by exact r_field ty_fld36_1 rfl) rfl rfl rfl ?_
              -- R17.11 141 := more.go:73 load
              refine QL.v (fun w st => by exact r_load1 (v := .pointer (some ⟨bB, 0, none⟩)) ty_one29 rfl (by rw [← f5]; exact st.c1 (by decide))) rfl rfl rfl ?_
              -- R17.12 142 := more.go:73 move
              refine QL.v (fun w st => by exact r_move (v := .int .i64 (t : Nat)) (congrArg (Value.int .i64) hT)) rfl rfl rfl ?_
              -- R17.13 143 := more.go:73 move
              refine QL.v (fun w st => by first | exact r_move (v := .int _ _) rfl | exact r_move rfl) rfl rfl rfl ?_
              -- R17.14 144 := more.go:73 nilCheck
              refine QL.v (fun w st => by exact r_nilCheck rfl) rfl rfl rfl ?_
              -- R17.15 145 := more.go:73 fieldAddr
              refine QL.v (fun w st => by exact r_field ty_fld50_5 rfl) rfl rfl rfl ?_
              -- R17.16 146 := more.go:73 indexAddr
              refine QL.v (fun w st => by exact r_indexA (j := t) ty_ar45 rfl rfl rfl ht16) rfl rfl rfl ?_
              -- R17.17 147 := more.go:73 indexAddr
              refine QL.v (fun w st => by exact r_indexA (j := r) ty_ar44 rfl rfl rfl hr20) rfl rfl rfl ?_
              -- R17.18 148 := more.go:73 load
              refine QL.v (fun w st => by exact r_load1 (v := .int .i64 (s.claim t r : Nat)) ty_one3 rfl (c_sC (hck2 _ _).B ht16 hr20 (by omega) st)) rfl rfl rfl ?_
              -- R17.19 149 := more.go:73 fieldAddr
              refine QL.v (fun w st => by exact r_field ty_fld36_1 rfl) rfl rfl rfl ?_
              -- R17.20 150 := more.go:73 load
              refine QL.v (fun w st => by exact r_load1 (v := .pointer (some ⟨bB, 0, none⟩)) ty_one29 rfl (by rw [← f5]; exact st.c1 (by decide))) rfl rfl rfl ?_
              -- R17.21 151 := more.go:73 move
              refine QL.v (fun w st => by exact r_move (v := .int .i64 (t : Nat)) (congrArg (Value.int .i64) hT)) rfl rfl rfl ?_
              -- R17.22 152 := more.go:73 move
              refine QL.v (fun w st => by first | exact r_move (v := .int _ _) rfl | exact r_move rfl) rfl rfl rfl ?_
              -- R17.23 153 := more.go:73 nilCheck
              refine QL.v (fun w st => by exact r_nilCheck rfl) rfl rfl rfl ?_
              -- R17.24 154 := more.go:73 fieldAddr
              refine QL.v (fun w st => by exact r_field ty_fld50_4 rfl) rfl rfl rfl ?_
              -- R17.25 155 := more.go:73 indexAddr
              refine QL.v (fun w st => by exact r_indexA (j := t) ty_ar45 rfl rfl rfl ht16) rfl rfl rfl ?_
              -- R17.26 156 := more.go:73 indexAddr
              refine QL.v (fun w st => by exact r_indexA (j := r) ty_ar44 rfl rfl rfl hr20) rfl rfl rfl ?_
              -- R17.27 157 := more.go:73 load
              refine QL.v (fun w st => by exact r_load1 (v := .int .i64 (s.held t r : Nat)) ty_one3 rfl (c_sH (hck2 _ _).B ht16 hr20 (by omega) st)) rfl rfl rfl ?_
              -- R17.28 158 := more.go:73 binOp
              refine QL.v (fun w st => by exact r_sub (r := (s.claim t r : Int) - s.held t r) rfl rfl (wi64 (by omega) (by omega))) rfl rfl rfl ?_
              -- R17.29 159 := more.go:73 binOp
              refine QL.v (fun w st => by exact r_gtr rfl rfl (decide_eq_true hnc)) rfl rfl rfl ?_
              -- R17.30 160 := more.go:73 pick
              refine QL.v (fun w st => by first | exact r_pickT (v := .bool _) rfl rfl | exact r_pickF (v := .bool _) rfl rfl) rfl rfl rfl ?_
              -- R17.31 7 := more.go:73 assign
              refine QL.v (fun w st => by first | exact r_assign (v := .bool _) rfl | exact r_assign rfl) rfl rfl rfl ?_
              refine QL.wl hKq fun w st => ?_
              refine WL.fin hK1121 (fun _ _ h => h) ?_
              refine WC.seq fun K1122 hK1122 => ?_
              -- region 18
              refine WC.region ?_
              -- R18.0 161 := more.go:74 fieldAddr
              refine WL.v (by exact r_field ty_fld36_3 rfl) rfl rfl rfl ?_
              -- R18.1 162 := more.go:74 fieldAddr
              refine WL.v (by exact r_field ty_fld34_0 rfl) rfl rfl rfl ?_
              -- R18.2 163 := more.go:74 load
              refine WL.v (by exact r_load1 (v := .int .i64 code) ty_one30 rfl (by rw [← f7]; exact st.c1 (by decide))) rfl rfl rfl ?_
              -- R18.3 164 := more.go:74 binOp
              refine WL.v (by first | exact r_neq rfl rfl (decide_eq_true (by omega)) | exact r_neq rfl rfl (decide_eq_false (by omega)) | exact r_neq rfl rfl rfl) rfl rfl rfl ?_
              -- R18.4 165 := more.go:74 move
              refine WL.v (by first | exact r_move (v := .bool _) rfl | exact r_move rfl) rfl rfl rfl ?_
              -- R18.5 166 := more.go:74 fieldAddr
              refine WL.no rfl rfl ?_
              -- R18.6 167 := more.go:74 fieldAddr
              refine WL.no rfl rfl ?_
              -- R18.7 168 := more.go:74 load
              refine WL.no rfl rfl ?_
              -- R18.8 169 := more.go:74 binOp
              refine WL.no rfl rfl ?_
              -- R18.9 170 := more.go:74 pick
              refine WL.v (by first | exact r_pickT (v := .bool _) rfl rfl | exact r_pickF (v := .bool _) rfl rfl) rfl rfl rfl ?_
              -- R18.10 8 := more.go:74 assign
              refine WL.v (by first | exact r_assign (v := .bool _) rfl | exact r_assign rfl) rfl rfl rfl ?_
              refine WL.fin hK1122 (fun _ _ h => h) ?_
              refine WC.seq fun K1123 hK1123 => ?_
              -- region 19
              refine WC.region ?_
              -- R19.0 171 := more.go:75 move
              refine WL.v (by first | exact r_move (v := .bool _) rfl | exact r_move rfl) rfl rfl rfl ?_
              -- R19.1 172 := more.go:75 move
              refine WL.v (by first | exact r_move (v := .bool _) rfl | exact r_move rfl) rfl rfl rfl ?_
              -- R19.2 173 := more.go:75 move
              refine WL.no rfl rfl ?_
              -- R19.3 174 := more.go:75 fieldAddr
              refine WL.no rfl rfl ?_
              -- R19.4 175 := more.go:75 fieldAddr
              refine WL.no rfl rfl ?_
              -- R19.5 176 := more.go:75 load
              refine WL.no rfl rfl ?_
              -- R19.6 177 := more.go:75 binOp
              refine WL.no rfl rfl ?_
              -- R19.7 178 := more.go:75 binOp
              refine WL.no rfl rfl ?_
              -- R19.8 179 := more.go:75 pick
              refine WL.v (by first | exact r_pickT (v := .bool _) rfl rfl | exact r_pickF (v := .bool _) rfl rfl) rfl rfl rfl ?_
              refine WL.fin hK1123 (fun _ _ h => h) ?_
              refine WC.condF rfl rfl ?_
              refine WC.skipJ hKC (fun _ _ h => h) () (by rw [hcs]; exact st) (by repeat (first | exact sub_nil _ | refine sub_cons rfl rfl ?_))
            · skip
              refine WC.seq fun K1124 hK1124 => ?_
              -- region 6
              refine WC.region ?_
              -- R6.0 60 := more.go:62 fieldAddr
              refine WL.v (by exact r_field ty_fld36_0 rfl) rfl rfl rfl ?_
              -- R6.1 61 := more.go:62 fieldAddr
              refine WL.v (by exact r_field ty_fld28_0 rfl) rfl rfl rfl ?_
              -- R6.2 62 := more.go:62 load
              refine WL.v (by exact r_load1 (v := .int .u8 (o.kind : Nat)) ty_one25 rfl (by rw [← f0]; exact st.c1 (by decide))) rfl rfl rfl ?_
              refine WL.fin hK1124 (fun _ _ h => h) ?_
              refine WC.block ?_
              refine WC.seq fun K1125 hK1125 => ?_
              -- region 7
              refine WC.region ?_
              -- R7.0 64 := more.go:63 binOp
              refine WL.v (by first | exact r_eql rfl rfl (decide_eq_true (by omega)) | exact r_eql rfl rfl (decide_eq_false (by omega)) | exact r_eql rfl rfl rfl) rfl rfl rfl ?_
              -- R7.1 63 := more.go:63 assign
              refine WL.v (by first | exact r_assign (v := .bool _) rfl | exact r_assign rfl) rfl rfl rfl ?_
              refine WL.fin hK1125 (fun _ _ h => h) ?_
              refine WC.condF rfl rfl ?_
              refine WC.seq fun K1126 hK1126 => ?_
              refine WC.seq fun K1127 hK1127 => ?_
              -- region 14
              refine WC.region ?_
              -- R14.0 127 := more.go:72 binOp
              refine WL.v (by first | exact r_eql rfl rfl (decide_eq_true (by omega)) | exact r_eql rfl rfl (decide_eq_false (by omega)) | exact r_eql rfl rfl rfl) rfl rfl rfl ?_
              -- R14.1 126 := more.go:72 assign
              refine WL.v (by first | exact r_assign (v := .bool _) rfl | exact r_assign rfl) rfl rfl rfl ?_
              refine WL.fin hK1127 (fun _ _ h => h) ?_
              refine WC.condF rfl rfl ?_
              refine WC.seq fun K1128 hK1128 => ?_
              -- region 15
              refine WC.region ?_
              -- R15.0 128 := more.go:72 binOp
              refine WL.v (by first | exact r_eql rfl rfl (decide_eq_true (by omega)) | exact r_eql rfl rfl (decide_eq_false (by omega)) | exact r_eql rfl rfl rfl) rfl rfl rfl ?_
              -- R15.1 126 := more.go:72 assign
              refine WL.v (by first | exact r_assign (v := .bool _) rfl | exact r_assign rfl) rfl rfl rfl ?_
              refine WL.fin hK1128 (fun _ _ h => h) ?_
              refine WC.condT rfl rfl ?_
              refine WC.skipF hK1126 (fun _ _ h => h) ?_
              refine WC.condT rfl rfl ?_
              refine WC.seq fun K1129 hK1129 => ?_
              -- region 17 (draws)
              refine WC.quietS st ty_mixed (by kernel_rfl) fun Kq hKq => ?_
              -- R17.0 130 := more.go:73 fieldAddr
              refine QL.v (fun w st => by exact r_field ty_fld36_1 rfl) rfl rfl rfl ?_
              -- R17.1 131 := more.go:73 load
              refine QL.v (fun w st => by exact r_load1 (v := .pointer (some ⟨bB, 0, none⟩)) ty_one29 rfl (by rw [← f5]; exact st.c1 (by decide))) rfl rfl rfl ?_
              -- R17.2 132 := more.go:73 nilCheck
              refine QL.v (fun w st => by exact r_nilCheck rfl) rfl rfl rfl ?_
              -- R17.3 133 := more.go:73 fieldAddr
              refine QL.v (fun w st => by exact r_field ty_fld50_0 rfl) rfl rfl rfl ?_
              -- R17.4 134 := more.go:73 load
              refine QL.v (fun w st => by exact r_load1 (v := .int .i64 (s.mode : Nat)) ty_one40 rfl (c_s (hck2 _ _).B (by decide) rfl st)) rfl rfl rfl ?_
              -- R17.5 135 := more.go:73 binOp
              refine QL.v (fun w st => by first | exact r_eql rfl rfl (decide_eq_true (by omega)) | exact r_eql rfl rfl (decide_eq_false (by omega)) | exact r_eql rfl rfl rfl) rfl rfl rfl ?_
              -- R17.6 136 := more.go:73 move
              refine QL.v (fun w st => by first | exact r_move (v := .bool _) rfl | exact r_move rfl) rfl rfl rfl ?_
              -- R17.7 137 := more.go:73 fieldAddr
              refine QL.v (fun w st => by exact r_field ty_fld36_0 rfl) rfl rfl rfl ?_
              -- R17.8 138 := more.go:73 fieldAddr
              refine QL.v (fun w st => by exact r_field ty_fld28_3 rfl) rfl rfl rfl ?_
              -- R17.9 139 := more.go:73 load
              refine QL.v (fun w st => by exact r_load1 (v := .int .i64 o.C) ty_one2 rfl (by rw [← f3]; exact st.c1 (by decide))) rfl rfl rfl ?_
              -- R17.10 140 := more.go:73 fieldAddr
              refine QL.v (fun w st => by exact r_field ty_fld36_1 rfl) rfl rfl rfl ?_
              -- R17.11 141 := more.go:73 load
              refine QL.v (fun w st => by exact r_load1 (v := .pointer (some ⟨bB, 0, none⟩)) ty_one29 rfl (by rw [← f5]; exact st.c1 (by decide))) rfl rfl rfl ?_
              -- R17.12 142 := more.go:73 move
              refine QL.v (fun w st => by exact r_move (v := .int .i64 (t : Nat)) (congrArg (Value.int .i64) hT)) rfl rfl rfl ?_
              -- R17.13 143 := more.go:73 move
              refine QL.v (fun w st => by first | exact r_move (v := .int _ _) rfl | exact r_move rfl) rfl rfl rfl ?_
              -- R17.14 144 := more.go:73 nilCheck
              refine QL.v (fun w st => by exact r_nilCheck rfl) rfl rfl rfl ?_
              -- R17.15 145 := more.go:73 fieldAddr
              refine QL.v (fun w st => by exact r_field ty_fld50_5 rfl) rfl rfl rfl ?_
              -- R17.16 146 := more.go:73 indexAddr
              refine QL.v (fun w st => by exact r_indexA (j := t) ty_ar45 rfl rfl rfl ht16) rfl rfl rfl ?_
              -- R17.17 147 := more.go:73 indexAddr
              refine QL.v (fun w st => by exact r_indexA (j := r) ty_ar44 rfl rfl rfl hr20) rfl rfl rfl ?_
              -- R17.18 148 := more.go:73 load
              refine QL.v (fun w st => by exact r_load1 (v := .int .i64 (s.claim t r : Nat)) ty_one3 rfl (c_sC (hck2 _ _).B ht16 hr20 (by omega) st)) rfl rfl rfl ?_
              -- R17.19 149 := more.go:73 fieldAddr
              refine QL.v (fun w st => by exact r_field ty_fld36_1 rfl) rfl rfl rfl ?_
              -- R17.20 150 := more.go:73 load
              refine QL.v (fun w st => by exact r_load1 (v := .pointer (some ⟨bB, 0, none⟩)) ty_one29 rfl (by rw [← f5]; exact st.c1 (by decide))) rfl rfl rfl ?_
              -- R17.21 151 := more.go:73 move
              refine QL.v (fun w st => by exact r_move (v := .int .i64 (t : Nat)) (congrArg (Value.int .i64) hT)) rfl rfl rfl ?_
              -- R17.22 152 := more.go:73 move
              refine QL.v (fun w st => by first | exact r_move (v := .int _ _) rfl | exact r_move rfl) rfl rfl rfl ?_
              -- R17.23 153 := more.go:73 nilCheck
              refine QL.v (fun w st => by exact r_nilCheck rfl) rfl rfl rfl ?_
              -- R17.24 154 := more.go:73 fieldAddr
              refine QL.v (fun w st => by exact r_field ty_fld50_4 rfl) rfl rfl rfl ?_
              -- R17.25 155 := more.go:73 indexAddr
              refine QL.v (fun w st => by exact r_indexA (j := t) ty_ar45 rfl rfl rfl ht16) rfl rfl rfl ?_
              -- R17.26 156 := more.go:73 indexAddr
              refine QL.v (fun w st => by exact r_indexA (j := r) ty_ar44 rfl rfl rfl hr20) rfl rfl rfl ?_
              -- R17.27 157 := more.go:73 load
              refine QL.v (fun w st => by exact r_load1 (v := .int .i64 (s.held t r : Nat)) ty_one3 rfl (c_sH (hck2 _ _).B ht16 hr20 (by omega) st)) rfl rfl rfl ?_
              -- R17.28 158 := more.go:73 binOp
              refine QL.v (fun w st => by exact r_sub (r := (s.claim t r : Int) - s.held t r) rfl rfl (wi64 (by omega) (by omega))) rfl rfl rfl ?_
              -- R17.29 159 := more.go:73 binOp
              refine QL.v (fun w st => by exact r_gtr rfl rfl (decide_eq_true hnc)) rfl rfl rfl ?_
              -- R17.30 160 := more.go:73 pick
              refine QL.v (fun w st => by first | exact r_pickT (v := .bool _) rfl rfl | exact r_pickF (v := .bool _) rfl rfl) rfl rfl rfl ?_
              -- R17.31 7 := more.go:73 assign
              refine QL.v (fun w st => by first | exact r_assign (v := .bool _) rfl | exact r_assign rfl) rfl rfl rfl ?_
              refine QL.wl hKq fun w st => ?_
              refine WL.fin hK1129 (fun _ _ h => h) ?_
              refine WC.seq fun K1130 hK1130 => ?_
              -- region 18
              refine WC.region ?_
              -- R18.0 161 := more.go:74 fieldAddr
              refine WL.v (by exact r_field ty_fld36_3 rfl) rfl rfl rfl ?_
              -- R18.1 162 := more.go:74 fieldAddr
              refine WL.v (by exact r_field ty_fld34_0 rfl) rfl rfl rfl ?_
              -- R18.2 163 := more.go:74 load
              refine WL.v (by exact r_load1 (v := .int .i64 code) ty_one30 rfl (by rw [← f7]; exact st.c1 (by decide))) rfl rfl rfl ?_
              -- R18.3 164 := more.go:74 binOp
              refine WL.v (by first | exact r_neq rfl rfl (decide_eq_true (by omega)) | exact r_neq rfl rfl (decide_eq_false (by omega)) | exact r_neq rfl rfl rfl) rfl rfl rfl ?_
              -- R18.4 165 := more.go:74 move
              refine WL.v (by first | exact r_move (v := .bool _) rfl | exact r_move rfl) rfl rfl rfl ?_
              -- R18.5 166 := more.go:74 fieldAddr
              refine WL.no rfl rfl ?_
              -- R18.6 167 := more.go:74 fieldAddr
              refine WL.no rfl rfl ?_
              -- R18.7 168 := more.go:74 load
              refine WL.no rfl rfl ?_
              -- R18.8 169 := more.go:74 binOp
              refine WL.no rfl rfl ?_
              -- R18.9 170 := more.go:74 pick
              refine WL.v (by first | exact r_pickT (v := .bool _) rfl rfl | exact r_pickF (v := .bool _) rfl rfl) rfl rfl rfl ?_
              -- R18.10 8 := more.go:74 assign
              refine WL.v (by first | exact r_assign (v := .bool _) rfl | exact r_assign rfl) rfl rfl rfl ?_
              refine WL.fin hK1130 (fun _ _ h => h) ?_
              refine WC.seq fun K1131 hK1131 => ?_
              -- region 19
              refine WC.region ?_
              -- R19.0 171 := more.go:75 move
              refine WL.v (by first | exact r_move (v := .bool _) rfl | exact r_move rfl) rfl rfl rfl ?_
              -- R19.1 172 := more.go:75 move
              refine WL.v (by first | exact r_move (v := .bool _) rfl | exact r_move rfl) rfl rfl rfl ?_
              -- R19.2 173 := more.go:75 move
              refine WL.no rfl rfl ?_
              -- R19.3 174 := more.go:75 fieldAddr
              refine WL.no rfl rfl ?_
              -- R19.4 175 := more.go:75 fieldAddr
              refine WL.no rfl rfl ?_
              -- R19.5 176 := more.go:75 load
              refine WL.no rfl rfl ?_
              -- R19.6 177 := more.go:75 binOp
              refine WL.no rfl rfl ?_
              -- R19.7 178 := more.go:75 binOp
              refine WL.no rfl rfl ?_
              -- R19.8 179 := more.go:75 pick
              refine WL.v (by first | exact r_pickT (v := .bool _) rfl rfl | exact r_pickF (v := .bool _) rfl rfl) rfl rfl rfl ?_
              refine WL.fin hK1131 (fun _ _ h => h) ?_
              refine WC.condF rfl rfl ?_
              refine WC.skipJ hKC (fun _ _ h => h) () (by rw [hcs]; exact st) (by repeat (first | exact sub_nil _ | refine sub_cons rfl rfl ?_))
            · skip
              refine WC.seq fun K1132 hK1132 => ?_
              -- region 6
              refine WC.region ?_
              -- R6.0 60 := more.go:62 fieldAddr
              refine WL.v (by exact r_field ty_fld36_0 rfl) rfl rfl rfl ?_
              -- R6.1 61 := more.go:62 fieldAddr
              refine WL.v (by exact r_field ty_fld28_0 rfl) rfl rfl rfl ?_
              -- R6.2 62 := more.go:62 load
              refine WL.v (by exact r_load1 (v := .int .u8 (o.kind : Nat)) ty_one25 rfl (by rw [← f0]; exact st.c1 (by decide))) rfl rfl rfl ?_
              refine WL.fin hK1132 (fun _ _ h => h) ?_
              refine WC.block ?_
              refine WC.seq fun K1133 hK1133 => ?_
              -- region 7
              refine WC.region ?_
              -- R7.0 64 := more.go:63 binOp
              refine WL.v (by first | exact r_eql rfl rfl (decide_eq_true (by omega)) | exact r_eql rfl rfl (decide_eq_false (by omega)) | exact r_eql rfl rfl rfl) rfl rfl rfl ?_
              -- R7.1 63 := more.go:63 assign
              refine WL.v (by first | exact r_assign (v := .bool _) rfl | exact r_assign rfl) rfl rfl rfl ?_
              refine WL.fin hK1133 (fun _ _ h => h) ?_
              refine WC.condF rfl rfl ?_
              refine WC.seq fun K1134 hK1134 => ?_
              refine WC.seq fun K1135 hK1135 => ?_
              -- region 14
              refine WC.region ?_
              -- R14.0 127 := more.go:72 binOp
              refine WL.v (by first | exact r_eql rfl rfl (decide_eq_true (by omega)) | exact r_eql rfl rfl (decide_eq_false (by omega)) | exact r_eql rfl rfl rfl) rfl rfl rfl ?_
              -- R14.1 126 := more.go:72 assign
              refine WL.v (by first | exact r_assign (v := .bool _) rfl | exact r_assign rfl) rfl rfl rfl ?_
              refine WL.fin hK1135 (fun _ _ h => h) ?_
              refine WC.condF rfl rfl ?_
              refine WC.seq fun K1136 hK1136 => ?_
              -- region 15
              refine WC.region ?_
              -- R15.0 128 := more.go:72 binOp
              refine WL.v (by first | exact r_eql rfl rfl (decide_eq_true (by omega)) | exact r_eql rfl rfl (decide_eq_false (by omega)) | exact r_eql rfl rfl rfl) rfl rfl rfl ?_
              -- R15.1 126 := more.go:72 assign
              refine WL.v (by first | exact r_assign (v := .bool _) rfl | exact r_assign rfl) rfl rfl rfl ?_
              refine WL.fin hK1136 (fun _ _ h => h) ?_
              refine WC.condF rfl rfl ?_
              -- region 16
              refine WC.region ?_
              -- R16.0 129 := more.go:72 binOp
              refine WL.v (by first | exact r_eql rfl rfl (decide_eq_true (by omega)) | exact r_eql rfl rfl (decide_eq_false (by omega)) | exact r_eql rfl rfl rfl) rfl rfl rfl ?_
              -- R16.1 126 := more.go:72 assign
              refine WL.v (by first | exact r_assign (v := .bool _) rfl | exact r_assign rfl) rfl rfl rfl ?_
              refine WL.fin hK1134 (fun _ _ h => h) ?_
              refine WC.condT rfl rfl ?_
              refine WC.seq fun K1137 hK1137 => ?_
              -- region 17 (draws)
              refine WC.quietS st ty_mixed (by kernel_rfl) fun Kq hKq => ?_
              -- R17.0 130 := more.go:73 fieldAddr
              refine QL.v (fun w st => by exact r_field ty_fld36_1 rfl) rfl rfl rfl ?_
              -- R17.1 131 := more.go:73 load
              refine QL.v (fun w st => by exact r_load1 (v := .pointer (some ⟨bB, 0, none⟩)) ty_one29 rfl (by rw [← f5]; exact st.c1 (by decide))) rfl rfl rfl ?_
              -- R17.2 132 := more.go:73 nilCheck
              refine QL.v (fun w st => by exact r_nilCheck rfl) rfl rfl rfl ?_
              -- R17.3 133 := more.go:73 fieldAddr
              refine QL.v (fun w st => by exact r_field ty_fld50_0 rfl) rfl rfl rfl ?_
              -- R17.4 134 := more.go:73 load
              refine QL.v (fun w st => by exact r_load1 (v := .int .i64 (s.mode : Nat)) ty_one40 rfl (c_s (hck2 _ _).B (by decide) rfl st)) rfl rfl rfl ?_
              -- R17.5 135 := more.go:73 binOp
              refine QL.v (fun w st => by first | exact r_eql rfl rfl (decide_eq_true (by omega)) | exact r_eql rfl rfl (decide_eq_false (by omega)) | exact r_eql rfl rfl rfl) rfl rfl rfl ?_
              -- R17.6 136 := more.go:73 move
              refine QL.v (fun w st => by first | exact r_move (v := .bool _) rfl | exact r_move rfl) rfl rfl rfl ?_
              -- R17.7 137 := more.go:73 fieldAddr
              refine QL.v (fun w st => by exact r_field ty_fld36_0 rfl) rfl rfl rfl ?_
              -- R17.8 138 := more.go:73 fieldAddr
              refine QL.v (fun w st => by exact r_field ty_fld28_3 rfl) rfl rfl rfl ?_
              -- R17.9 139 := more.go:73 load
              refine QL.v (fun w st => by exact r_load1 (v := .int .i64 o.C) ty_one2 rfl (by rw [← f3]; exact st.c1 (by decide))) rfl rfl rfl ?_
              -- R17.10 140 := more.go:73 fieldAddr
              refine QL.v (fun w st => by exact r_field ty_fld36_1 rfl) rfl rfl rfl ?_
              -- R17.11 141 := more.go:73 load
              refine QL.v (fun w st => by exact r_load1 (v := .pointer (some ⟨bB, 0, none⟩)) ty_one29 rfl (by rw [← f5]; exact st.c1 (by decide))) rfl rfl rfl ?_
              -- R17.12 142 := more.go:73 move
              refine QL.v (fun w st => by exact r_move (v := .int .i64 (t : Nat)) (congrArg (Value.int .i64) hT)) rfl rfl rfl ?_
              -- R17.13 143 := more.go:73 move
              refine QL.v (fun w st => by first | exact r_move (v := .int _ _) rfl | exact r_move rfl) rfl rfl rfl ?_
              -- R17.14 144 := more.go:73 nilCheck
              refine QL.v (fun w st => by exact r_nilCheck rfl) rfl rfl rfl ?_
              -- R17.15 145 := more.go:73 fieldAddr
              refine QL.v (fun w st => by exact r_field ty_fld50_5 rfl) rfl rfl rfl ?_
              -- R17.16 146 := more.go:73 indexAddr
              refine QL.v (fun w st => by exact r_indexA (j := t) ty_ar45 rfl rfl rfl ht16) rfl rfl rfl ?_
              -- R17.17 147 := more.go:73 indexAddr
              refine QL.v (fun w st => by exact r_indexA (j := r) ty_ar44 rfl rfl rfl hr20) rfl rfl rfl ?_
              -- R17.18 148 := more.go:73 load
              refine QL.v (fun w st => by exact r_load1 (v := .int .i64 (s.claim t r : Nat)) ty_one3 rfl (c_sC (hck2 _ _).B ht16 hr20 (by omega) st)) rfl rfl rfl ?_
              -- R17.19 149 := more.go:73 fieldAddr
              refine QL.v (fun w st => by exact r_field ty_fld36_1 rfl) rfl rfl rfl ?_
              -- R17.20 150 := more.go:73 load
              refine QL.v (fun w st => by exact r_load1 (v := .pointer (some ⟨bB, 0, none⟩)) ty_one29 rfl (by rw [← f5]; exact st.c1 (by decide))) rfl rfl rfl ?_
              -- R17.21 151 := more.go:73 move
              refine QL.v (fun w st => by exact r_move (v := .int .i64 (t : Nat)) (congrArg (Value.int .i64) hT)) rfl rfl rfl ?_
              -- R17.22 152 := more.go:73 move
              refine QL.v (fun w st => by first | exact r_move (v := .int _ _) rfl | exact r_move rfl) rfl rfl rfl ?_
              -- R17.23 153 := more.go:73 nilCheck
              refine QL.v (fun w st => by exact r_nilCheck rfl) rfl rfl rfl ?_
              -- R17.24 154 := more.go:73 fieldAddr
              refine QL.v (fun w st => by exact r_field ty_fld50_4 rfl) rfl rfl rfl ?_
              -- R17.25 155 := more.go:73 indexAddr
              refine QL.v (fun w st => by exact r_indexA (j := t) ty_ar45 rfl rfl rfl ht16) rfl rfl rfl ?_
              -- R17.26 156 := more.go:73 indexAddr
              refine QL.v (fun w st => by exact r_indexA (j := r) ty_ar44 rfl rfl rfl hr20) rfl rfl rfl ?_
              -- R17.27 157 := more.go:73 load
              refine QL.v (fun w st => by exact r_load1 (v := .int .i64 (s.held t r : Nat)) ty_one3 rfl (c_sH (hck2 _ _).B ht16 hr20 (by omega) st)) rfl rfl rfl ?_
              -- R17.28 158 := more.go:73 binOp
              refine QL.v (fun w st => by exact r_sub (r := (s.claim t r : Int) - s.held t r) rfl rfl (wi64 (by omega) (by omega))) rfl rfl rfl ?_
              -- R17.29 159 := more.go:73 binOp
              refine QL.v (fun w st => by exact r_gtr rfl rfl (decide_eq_true hnc)) rfl rfl rfl ?_
              -- R17.30 160 := more.go:73 pick
              refine QL.v (fun w st => by first | exact r_pickT (v := .bool _) rfl rfl | exact r_pickF (v := .bool _) rfl rfl) rfl rfl rfl ?_
              -- R17.31 7 := more.go:73 assign
              refine QL.v (fun w st => by first | exact r_assign (v := .bool _) rfl | exact r_assign rfl) rfl rfl rfl ?_
              refine QL.wl hKq fun w st => ?_
              refine WL.fin hK1137 (fun _ _ h => h) ?_
              refine WC.seq fun K1138 hK1138 => ?_
              -- region 18
              refine WC.region ?_
              -- R18.0 161 := more.go:74 fieldAddr
              refine WL.v (by exact r_field ty_fld36_3 rfl) rfl rfl rfl ?_
              -- R18.1 162 := more.go:74 fieldAddr
              refine WL.v (by exact r_field ty_fld34_0 rfl) rfl rfl rfl ?_
              -- R18.2 163 := more.go:74 load
              refine WL.v (by exact r_load1 (v := .int .i64 code) ty_one30 rfl (by rw [← f7]; exact st.c1 (by decide))) rfl rfl rfl ?_
              -- R18.3 164 := more.go:74 binOp
              refine WL.v (by first | exact r_neq rfl rfl (decide_eq_true (by omega)) | exact r_neq rfl rfl (decide_eq_false (by omega)) | exact r_neq rfl rfl rfl) rfl rfl rfl ?_
              -- R18.4 165 := more.go:74 move
              refine WL.v (by first | exact r_move (v := .bool _) rfl | exact r_move rfl) rfl rfl rfl ?_
              -- R18.5 166 := more.go:74 fieldAddr
              refine WL.no rfl rfl ?_
              -- R18.6 167 := more.go:74 fieldAddr
              refine WL.no rfl rfl ?_
              -- R18.7 168 := more.go:74 load
              refine WL.no rfl rfl ?_
              -- R18.8 169 := more.go:74 binOp
              refine WL.no rfl rfl ?_
              -- R18.9 170 := more.go:74 pick
              refine WL.v (by first | exact r_pickT (v := .bool _) rfl rfl | exact r_pickF (v := .bool _) rfl rfl) rfl rfl rfl ?_
              -- R18.10 8 := more.go:74 assign
              refine WL.v (by first | exact r_assign (v := .bool _) rfl | exact r_assign rfl) rfl rfl rfl ?_
              refine WL.fin hK1138 (fun _ _ h => h) ?_
              refine WC.seq fun K1139 hK1139 => ?_
              -- region 19
              refine WC.region ?_
              -- R19.0 171 := more.go:75 move
              refine WL.v (by first | exact r_move (v := .bool _) rfl | exact r_move rfl) rfl rfl rfl ?_
              -- R19.1 172 := more.go:75 move
              refine WL.v (by first | exact r_move (v := .bool _) rfl | exact r_move rfl) rfl rfl rfl ?_
              -- R19.2 173 := more.go:75 move
              refine WL.no rfl rfl ?_
              -- R19.3 174 := more.go:75 fieldAddr
              refine WL.no rfl rfl ?_
              -- R19.4 175 := more.go:75 fieldAddr
              refine WL.no rfl rfl ?_
              -- R19.5 176 := more.go:75 load
              refine WL.no rfl rfl ?_
              -- R19.6 177 := more.go:75 binOp
              refine WL.no rfl rfl ?_
              -- R19.7 178 := more.go:75 binOp
              refine WL.no rfl rfl ?_
              -- R19.8 179 := more.go:75 pick
              refine WL.v (by first | exact r_pickT (v := .bool _) rfl rfl | exact r_pickF (v := .bool _) rfl rfl) rfl rfl rfl ?_
              refine WL.fin hK1139 (fun _ _ h => h) ?_
              refine WC.condF rfl rfl ?_
              refine WC.skipJ hKC (fun _ _ h => h) () (by rw [hcs]; exact st) (by repeat (first | exact sub_nil _ | refine sub_cons rfl rfl ?_))
          by_cases h15 : code = 15
          · skip
            rcases (by omega : o.kind = 3 ∨ o.kind = 4 ∨ o.kind = 5) with hk3 | hk4 | hk5
            · skip
              refine WC.seq fun K1140 hK1140 => ?_
              -- region 6
              refine WC.region ?_
              -- R6.0 60 := more.go:62 fieldAddr
              refine WL.v (by exact r_field ty_fld36_0 rfl) rfl rfl rfl ?_
              -- R6.1 61 := more.go:62 fieldAddr
              refine WL.v (by exact r_field ty_fld28_0 rfl) rfl rfl rfl ?_
              -- R6.2 62 := more.go:62 load
              refine WL.v (by exact r_load1 (v := .int .u8 (o.kind : Nat)) ty_one25 rfl (by rw [← f0]; exact st.c1 (by decide))) rfl rfl rfl ?_
              refine WL.fin hK1140 (fun _ _ h => h) ?_
              refine WC.block ?_
              refine WC.seq fun K1141 hK1141 => ?_
              -- region 7
              refine WC.region ?_
              -- R7.0 64 := more.go:63 binOp
              refine WL.v (by first | exact r_eql rfl rfl (decide_eq_true (by omega)) | exact r_eql rfl rfl (decide_eq_false (by omega)) | exact r_eql rfl rfl rfl) rfl rfl rfl ?_
              -- R7.1 63 := more.go:63 assign
              refine WL.v (by first | exact r_assign (v := .bool _) rfl | exact r_assign rfl) rfl rfl rfl ?_
              refine WL.fin hK1141 (fun _ _ h => h) ?_
              refine WC.condF rfl rfl ?_
              refine WC.seq fun K1142 hK1142 => ?_
              refine WC.seq fun K1143 hK1143 => ?_
              -- region 14
              refine WC.region ?_
              -- R14.0 127 := more.go:72 binOp
              refine WL.v (by first | exact r_eql rfl rfl (decide_eq_true (by omega)) | exact r_eql rfl rfl (decide_eq_false (by omega)) | exact r_eql rfl rfl rfl) rfl rfl rfl ?_
              -- R14.1 126 := more.go:72 assign
              refine WL.v (by first | exact r_assign (v := .bool _) rfl | exact r_assign rfl) rfl rfl rfl ?_
              refine WL.fin hK1143 (fun _ _ h => h) ?_
              refine WC.condT rfl rfl ?_
              refine WC.skipF hK1142 (fun _ _ h => h) ?_
              refine WC.condT rfl rfl ?_
              refine WC.seq fun K1144 hK1144 => ?_
              -- region 17 (draws)
              refine WC.quietS st ty_mixed (by kernel_rfl) fun Kq hKq => ?_
              -- R17.0 130 := more.go:73 fieldAddr
              refine QL.v (fun w st => by exact r_field ty_fld36_1 rfl) rfl rfl rfl ?_
              -- R17.1 131 := more.go:73 load
              refine QL.v (fun w st => by exact r_load1 (v := .pointer (some ⟨bB, 0, none⟩)) ty_one29 rfl (by rw [← f5]; exact st.c1 (by decide))) rfl rfl rfl ?_
              -- R17.2 132 := more.go:73 nilCheck
              refine QL.v (fun w st => by exact r_nilCheck rfl) rfl rfl rfl ?_
              -- R17.3 133 := more.go:73 fieldAddr
              refine QL.v (fun w st => by exact r_field ty_fld50_0 rfl) rfl rfl rfl ?_
              -- R17.4 134 := more.go:73 load
              refine QL.v (fun w st => by exact r_load1 (v := .int .i64 (s.mode : Nat)) ty_one40 rfl (c_s (hck2 _ _).B (by decide) rfl st)) rfl rfl rfl ?_
              -- R17.5 135 := more.go:73 binOp
              refine QL.v (fun w st => by first | exact r_eql rfl rfl (decide_eq_true (by omega)) | exact r_eql rfl rfl (decide_eq_false (by omega)) | exact r_eql rfl rfl rfl) rfl rfl rfl ?_
              -- R17.6 136 := more.go:73 move
              refine QL.v (fun w st => by first | exact r_move (v := .bool _) rfl | exact r_move rfl) rfl rfl rfl ?_
              -- R17.7 137 := more.go:73 fieldAddr
              refine QL.v (fun w st => by exact r_field ty_fld36_0 rfl) rfl rfl rfl ?_
              -- R17.8 138 := more.go:73 fieldAddr
              refine QL.v (fun w st => by exact r_field ty_fld28_3 rfl) rfl rfl rfl ?_
              -- R17.9 139 := more.go:73 load
              refine QL.v (fun w st => by exact r_load1 (v := .int .i64 o.C) ty_one2 rfl (by rw [← f3]; exact st.c1 (by decide))) rfl rfl rfl ?_
              -- R17.10 140 := more.go:73 fieldAddr
              refine QL.v (fun w st => by exact r_field ty_fld36_1 rfl) rfl rfl rfl ?_
              -- R17.11 141 := more.go:73 load
              refine QL.v (fun w st => by exact r_load1 (v := .pointer (some ⟨bB, 0, none⟩)) ty_one29 rfl (by rw [← f5]; exact st.c1 (by decide))) rfl rfl rfl ?_
              -- R17.12 142 := more.go:73 move
              refine QL.v (fun w st => by exact r_move (v := .int .i64 (t : Nat)) (congrArg (Value.int .i64) hT)) rfl rfl rfl ?_
              -- R17.13 143 := more.go:73 move
              refine QL.v (fun w st => by first | exact r_move (v := .int _ _) rfl | exact r_move rfl) rfl rfl rfl ?_
              -- R17.14 144 := more.go:73 nilCheck
              refine QL.v (fun w st => by exact r_nilCheck rfl) rfl rfl rfl ?_
              -- R17.15 145 := more.go:73 fieldAddr
              refine QL.v (fun w st => by exact r_field ty_fld50_5 rfl) rfl rfl rfl ?_
              -- R17.16 146 := more.go:73 indexAddr
              refine QL.v (fun w st => by exact r_indexA (j := t) ty_ar45 rfl rfl rfl ht16) rfl rfl rfl ?_
              -- R17.17 147 := more.go:73 indexAddr
              refine QL.v (fun w st => by exact r_indexA (j := r) ty_ar44 rfl rfl rfl hr20) rfl rfl rfl ?_
              -- R17.18 148 := more.go:73 load
              refine QL.v (fun w st => by exact r_load1 (v := .int .i64 (s.claim t r : Nat)) ty_one3 rfl (c_sC (hck2 _ _).B ht16 hr20 (by omega) st)) rfl rfl rfl ?_
              -- R17.19 149 := more.go:73 fieldAddr
              refine QL.v (fun w st => by exact r_field ty_fld36_1 rfl) rfl rfl rfl ?_
              -- R17.20 150 := more.go:73 load
              refine QL.v (fun w st => by exact r_load1 (v := .pointer (some ⟨bB, 0, none⟩)) ty_one29 rfl (by rw [← f5]; exact st.c1 (by decide))) rfl rfl rfl ?_
              -- R17.21 151 := more.go:73 move
              refine QL.v (fun w st => by exact r_move (v := .int .i64 (t : Nat)) (congrArg (Value.int .i64) hT)) rfl rfl rfl ?_
              -- R17.22 152 := more.go:73 move
              refine QL.v (fun w st => by first | exact r_move (v := .int _ _) rfl | exact r_move rfl) rfl rfl rfl ?_
              -- R17.23 153 := more.go:73 nilCheck
              refine QL.v (fun w st => by exact r_nilCheck rfl) rfl rfl rfl ?_
              -- R17.24 154 := more.go:73 fieldAddr
              refine QL.v (fun w st => by exact r_field ty_fld50_4 rfl) rfl rfl rfl ?_
              -- R17.25 155 := more.go:73 indexAddr
              refine QL.v (fun w st => by exact r_indexA (j := t) ty_ar45 rfl rfl rfl ht16) rfl rfl rfl ?_
              -- R17.26 156 := more.go:73 indexAddr
              refine QL.v (fun w st => by exact r_indexA (j := r) ty_ar44 rfl rfl rfl hr20) rfl rfl rfl ?_
              -- R17.27 157 := more.go:73 load
              refine QL.v (fun w st => by exact r_load1 (v := .int .i64 (s.held t r : Nat)) ty_one3 rfl (c_sH (hck2 _ _).B ht16 hr20 (by omega) st)) rfl rfl rfl ?_
              -- R17.28 158 := more.go:73 binOp
              refine QL.v (fun w st => by exact r_sub (r := (s.claim t r : Int) - s.held t r) rfl rfl (wi64 (by omega) (by omega))) rfl rfl rfl ?_
              -- R17.29 159 := more.go:73 binOp
              refine QL.v (fun w st => by exact r_gtr rfl rfl (decide_eq_true hnc)) rfl rfl rfl ?_
              -- R17.30 160 := more.go:73 pick
              refine QL.v (fun w st => by first | exact r_pickT (v := .bool _) rfl rfl | exact r_pickF (v := .bool _) rfl rfl) rfl rfl rfl ?_
              -- R17.31 7 := more.go:73 assign
              refine QL.v (fun w st => by first | exact r_assign (v := .bool _) rfl | exact r_assign rfl) rfl rfl rfl ?_
              refine QL.wl hKq fun w st => ?_
              refine WL.fin hK1144 (fun _ _ h => h) ?_
              refine WC.seq fun K1145 hK1145 => ?_
              -- region 18
              refine WC.region ?_
              -- R18.0 161 := more.go:74 fieldAddr
              refine WL.v (by exact r_field ty_fld36_3 rfl) rfl rfl rfl ?_
              -- R18.1 162 := more.go:74 fieldAddr
              refine WL.v (by exact r_field ty_fld34_0 rfl) rfl rfl rfl ?_
              -- R18.2 163 := more.go:74 load
              refine WL.v (by exact r_load1 (v := .int .i64 code) ty_one30 rfl (by rw [← f7]; exact st.c1 (by decide))) rfl rfl rfl ?_
              -- R18.3 164 := more.go:74 binOp
              refine WL.v (by first | exact r_neq rfl rfl (decide_eq_true (by omega)) | exact r_neq rfl rfl (decide_eq_false (by omega)) | exact r_neq rfl rfl rfl) rfl rfl rfl ?_
              -- R18.4 165 := more.go:74 move
              refine WL.v (by first | exact r_move (v := .bool _) rfl | exact r_move rfl) rfl rfl rfl ?_
              -- R18.5 166 := more.go:74 fieldAddr
              refine WL.v (by exact r_field ty_fld36_3 rfl) rfl rfl rfl ?_
              -- R18.6 167 := more.go:74 fieldAddr
              refine WL.v (by exact r_field ty_fld34_0 rfl) rfl rfl rfl ?_
              -- R18.7 168 := more.go:74 load
              refine WL.v (by exact r_load1 (v := .int .i64 code) ty_one30 rfl (by rw [← f7]; exact st.c1 (by decide))) rfl rfl rfl ?_
              -- R18.8 169 := more.go:74 binOp
              refine WL.v (by first | exact r_neq rfl rfl (decide_eq_true (by omega)) | exact r_neq rfl rfl (decide_eq_false (by omega)) | exact r_neq rfl rfl rfl) rfl rfl rfl ?_
              -- R18.9 170 := more.go:74 pick
              refine WL.v (by first | exact r_pickT (v := .bool _) rfl rfl | exact r_pickF (v := .bool _) rfl rfl) rfl rfl rfl ?_
              -- R18.10 8 := more.go:74 assign
              refine WL.v (by first | exact r_assign (v := .bool _) rfl | exact r_assign rfl) rfl rfl rfl ?_
              refine WL.fin hK1145 (fun _ _ h => h) ?_
              refine WC.seq fun K1146 hK1146 => ?_
              -- region 19
              refine WC.region ?_
              -- R19.0 171 := more.go:75 move
              refine WL.v (by first | exact r_move (v := .bool _) rfl | exact r_move rfl) rfl rfl rfl ?_
              -- R19.1 172 := more.go:75 move
              refine WL.v (by first | exact r_move (v := .bool _) rfl | exact r_move rfl) rfl rfl rfl ?_
              -- R19.2 173 := more.go:75 move
              refine WL.no rfl rfl ?_
              -- R19.3 174 := more.go:75 fieldAddr
              refine WL.no rfl rfl ?_
              -- R19.4 175 := more.go:75 fieldAddr
              refine WL.no rfl rfl ?_
              -- R19.5 176 := more.go:75 load
              refine WL.no rfl rfl ?_
              -- R19.6 177 := more.go:75 binOp
              refine WL.no rfl rfl ?_
              -- R19.7 178 := more.go:75 binOp
              refine WL.no rfl rfl ?_
              -- R19.8 179 := more.go:75 pick
              refine WL.v (by first | exact r_pickT (v := .bool _) rfl rfl | exact r_pickF (v := .bool _) rfl rfl) rfl rfl rfl ?_
              refine WL.fin hK1146 (fun _ _ h => h) ?_
              refine WC.condF rfl rfl ?_
              refine WC.skipJ hKC (fun _ _ h => h) () (by rw [hcs]; exact st) (by repeat (first | exact sub_nil _ | refine sub_cons rfl rfl ?_))
            · skip
              refine WC.seq fun K1147 hK1147 => ?_
              -- region 6
              refine WC.region ?_
              -- R6.0 60 := more.go:62 fieldAddr
              refine WL.v (by exact r_field ty_fld36_0 rfl) rfl rfl rfl ?_
              -- R6.1 61 := more.go:62 fieldAddr
              refine WL.v (by exact r_field ty_fld28_0 rfl) rfl rfl rfl ?_
              -- R6.2 62 := more.go:62 load
              refine WL.v (by exact r_load1 (v := .int .u8 (o.kind : Nat)) ty_one25 rfl (by rw [← f0]; exact st.c1 (by decide))) rfl rfl rfl ?_
              refine WL.fin hK1147 (fun _ _ h => h) ?_
              refine WC.block ?_
              refine WC.seq fun K1148 hK1148 => ?_
              -- region 7
              refine WC.region ?_
              -- R7.0 64 := more.go:63 binOp
              refine WL.v (by first | exact r_eql rfl rfl (decide_eq_true (by omega)) | exact r_eql rfl rfl (decide_eq_false (by omega)) | exact r_eql rfl rfl rfl) rfl rfl rfl ?_
              -- R7.1 63 := more.go:63 assign
              refine WL.v (by first | exact r_assign (v := .bool _) rfl | exact r_assign rfl) rfl rfl rfl ?_
              refine WL.fin hK1148 (fun _ _ h => h) ?_
              refine WC.condF rfl rfl ?_
              refine WC.seq fun K1149 hK1149 => ?_
              refine WC.seq fun K1150 hK1150 => ?_
              -- region 14
              refine WC.region ?_
              -- R14.0 127 := more.go:72 binOp
              refine WL.v (by first | exact r_eql rfl rfl (decide_eq_true (by omega)) | exact r_eql rfl rfl (decide_eq_false (by omega)) | exact r_eql rfl rfl rfl) rfl rfl rfl ?_
              -- R14.1 126 := more.go:72 assign
              refine WL.v (by first | exact r_assign (v := .bool _) rfl | exact r_assign rfl) rfl rfl rfl ?_
              refine WL.fin hK1150 (fun _ _ h => h) ?_
              refine WC.condF rfl rfl ?_
              refine WC.seq fun K1151 hK1151 => ?_
              -- region 15
              refine WC.region ?_
              -- R15.0 128 := more.go:72 binOp
              refine WL.v (by first | exact r_eql rfl rfl (decide_eq_true (by omega)) | exact r_eql rfl rfl (decide_eq_false (by omega)) | exact r_eql rfl rfl rfl) rfl rfl rfl ?_
              -- R15.1 126 := more.go:72 assign
              refine WL.v (by first | exact r_assign (v := .bool _) rfl | exact r_assign rfl) rfl rfl rfl ?_
              refine WL.fin hK1151 (fun _ _ h => h) ?_
              refine WC.condT rfl rfl ?_
              refine WC.skipF hK1149 (fun _ _ h => h) ?_
              refine WC.condT rfl rfl ?_
              refine WC.seq fun K1152 hK1152 => ?_
              -- region 17 (draws)
              refine WC.quietS st ty_mixed (by kernel_rfl) fun Kq hKq => ?_
              -- R17.0 130 := more.go:73 fieldAddr
              refine QL.v (fun w st => by exact r_field ty_fld36_1 rfl) rfl rfl rfl ?_
              -- R17.1 131 := more.go:73 load
              refine QL.v (fun w st => by exact r_load1 (v := .pointer (some ⟨bB, 0, none⟩)) ty_one29 rfl (by rw [← f5]; exact st.c1 (by decide))) rfl rfl rfl ?_
              -- R17.2 132 := more.go:73 nilCheck
              refine QL.v (fun w st => by exact r_nilCheck rfl) rfl rfl rfl ?_
              -- R17.3 133 := more.go:73 fieldAddr
              refine QL.v (fun w st => by exact r_field ty_fld50_0 rfl) rfl rfl rfl ?_
              -- R17.4 134 := more.go:73 load
              refine QL.v (fun w st => by exact r_load1 (v := .int .i64 (s.mode : Nat)) ty_one40 rfl (c_s (hck2 _ _).B (by decide) rfl st)) rfl rfl rfl ?_
              -- R17.5 135 := more.go:73 binOp
              refine QL.v (fun w st => by first | exact r_eql rfl rfl (decide_eq_true (by omega)) | exact r_eql rfl rfl (decide_eq_false (by omega)) | exact r_eql rfl rfl rfl) rfl rfl rfl ?_
              -- R17.6 136 := more.go:73 move
              refine QL.v (fun w st => by first | exact r_move (v := .bool _) rfl | exact r_move rfl) rfl rfl rfl ?_
              -- R17.7 137 := more.go:73 fieldAddr
              refine QL.v (fun w st => by exact r_field ty_fld36_0 rfl) rfl rfl rfl ?_
              -- R17.8 138 := more.go:73 fieldAddr
              refine QL.v (fun w st => by exact r_field ty_fld28_3 rfl) rfl rfl rfl ?_
              -- R17.9 139 := more.go:73 load
              refine QL.v (fun w st => by exact r_load1 (v := .int .i64 o.C) ty_one2 rfl (by rw [← f3]; exact st.c1 (by decide))) rfl rfl rfl ?_
              -- R17.10 140 := more.go:73 fieldAddr
              refine QL.v (fun w st => by exact r_field ty_fld36_1 rfl) rfl rfl rfl ?_
              -- R17.11 141 := more.go:73 load
              refine QL.v (fun w st => by exact r_load1 (v := .pointer (some ⟨bB, 0, none⟩)) ty_one29 rfl (by rw [← f5]; exact st.c1 (by decide))) rfl rfl rfl ?_
              -- R17.12 142 := more.go:73 move
              refine QL.v (fun w st => by exact r_move (v := .int .i64 (t : Nat)) (congrArg (Value.int .i64) hT)) rfl rfl rfl ?_
              -- R17.13 143 := more.go:73 move
              refine QL.v (fun w st => by first | exact r_move (v := .int _ _) rfl | exact r_move rfl) rfl rfl rfl ?_
              -- R17.14 144 := more.go:73 nilCheck
              refine QL.v (fun w st => by exact r_nilCheck rfl) rfl rfl rfl ?_
              -- R17.15 145 := more.go:73 fieldAddr
              refine QL.v (fun w st => by exact r_field ty_fld50_5 rfl) rfl rfl rfl ?_
              -- R17.16 146 := more.go:73 indexAddr
              refine QL.v (fun w st => by exact r_indexA (j := t) ty_ar45 rfl rfl rfl ht16) rfl rfl rfl ?_
              -- R17.17 147 := more.go:73 indexAddr
              refine QL.v (fun w st => by exact r_indexA (j := r) ty_ar44 rfl rfl rfl hr20) rfl rfl rfl ?_
              -- R17.18 148 := more.go:73 load
              refine QL.v (fun w st => by exact r_load1 (v := .int .i64 (s.claim t r : Nat)) ty_one3 rfl (c_sC (hck2 _ _).B ht16 hr20 (by omega) st)) rfl rfl rfl ?_
              -- R17.19 149 := more.go:73 fieldAddr
              refine QL.v (fun w st => by exact r_field ty_fld36_1 rfl) rfl rfl rfl ?_
              -- R17.20 150 := more.go:73 load
              refine QL.v (fun w st => by exact r_load1 (v := .pointer (some ⟨bB, 0, none⟩)) ty_one29 rfl (by rw [← f5]; exact st.c1 (by decide))) rfl rfl rfl ?_
              -- R17.21 151 := more.go:73 move
              refine QL.v (fun w st => by exact r_move (v := .int .i64 (t : Nat)) (congrArg (Value.int .i64) hT)) rfl rfl rfl ?_
              -- R17.22 152 := more.go:73 move
              refine QL.v (fun w st => by first | exact r_move (v := .int _ _) rfl | exact r_move rfl) rfl rfl rfl ?_
              -- R17.23 153 := more.go:73 nilCheck
              refine QL.v (fun w st => by exact r_nilCheck rfl) rfl rfl rfl ?_
              -- R17.24 154 := more.go:73 fieldAddr
              refine QL.v (fun w st => by exact r_field ty_fld50_4 rfl) rfl rfl rfl ?_
              -- R17.25 155 := more.go:73 indexAddr
              refine QL.v (fun w st => by exact r_indexA (j := t) ty_ar45 rfl rfl rfl ht16) rfl rfl rfl ?_
              -- R17.26 156 := more.go:73 indexAddr
              refine QL.v (fun w st => by exact r_indexA (j := r) ty_ar44 rfl rfl rfl hr20) rfl rfl rfl ?_
              -- R17.27 157 := more.go:73 load
              refine QL.v (fun w st => by exact r_load1 (v := .int .i64 (s.held t r : Nat)) ty_one3 rfl (c_sH (hck2 _ _).B ht16 hr20 (by omega) st)) rfl rfl rfl ?_
              -- R17.28 158 := more.go:73 binOp
              refine QL.v (fun w st => by exact r_sub (r := (s.claim t r : Int) - s.held t r) rfl rfl (wi64 (by omega) (by omega))) rfl rfl rfl ?_
              -- R17.29 159 := more.go:73 binOp
              refine QL.v (fun w st => by exact r_gtr rfl rfl (decide_eq_true hnc)) rfl rfl rfl ?_
              -- R17.30 160 := more.go:73 pick
              refine QL.v (fun w st => by first | exact r_pickT (v := .bool _) rfl rfl | exact r_pickF (v := .bool _) rfl rfl) rfl rfl rfl ?_
              -- R17.31 7 := more.go:73 assign
              refine QL.v (fun w st => by first | exact r_assign (v := .bool _) rfl | exact r_assign rfl) rfl rfl rfl ?_
              refine QL.wl hKq fun w st => ?_
              refine WL.fin hK1152 (fun _ _ h => h) ?_
              refine WC.seq fun K1153 hK1153 => ?_
              -- region 18
              refine WC.region ?_
              -- R18.0 161 := more.go:74 fieldAddr
              refine WL.v (by exact r_field ty_fld36_3 rfl) rfl rfl rfl ?_
              -- R18.1 162 := more.go:74 fieldAddr
              refine WL.v (by exact r_field ty_fld34_0 rfl) rfl rfl rfl ?_
              -- R18.2 163 := more.go:74 load
              refine WL.v (by exact r_load1 (v := .int .i64 code) ty_one30 rfl (by rw [← f7]; exact st.c1 (by decide))) rfl rfl rfl ?_
              -- R18.3 164 := more.go:74 binOp
              refine WL.v (by first | exact r_neq rfl rfl (decide_eq_true (by omega)) | exact r_neq rfl rfl (decide_eq_false (by omega)) | exact r_neq rfl rfl rfl) rfl rfl rfl ?_
              -- R18.4 165 := more.go:74 move
              refine WL.v (by first | exact r_move (v := .bool _) rfl | exact r_move rfl) rfl rfl rfl ?_
              -- R18.5 166 := more.go:74 fieldAddr
              refine WL.v (by exact r_field ty_fld36_3 rfl) rfl rfl rfl ?_
              -- R18.6 167 := more.go:74 fieldAddr
              refine WL.v (by exact r_field ty_fld34_0 rfl) rfl rfl rfl ?_
              -- R18.7 168 := more.go:74 load
              refine WL.v (by exact r_load1 (v := .int .i64 code) ty_one30 rfl (by rw [← f7]; exact st.c1 (by decide))) rfl rfl rfl ?_
              -- R18.8 169 := more.go:74 binOp
              refine WL.v (by first | exact r_neq rfl rfl (decide_eq_true (by omega)) | exact r_neq rfl rfl (decide_eq_false (by omega)) | exact r_neq rfl rfl rfl) rfl rfl rfl ?_
              -- R18.9 170 := more.go:74 pick
              refine WL.v (by first | exact r_pickT (v := .bool _) rfl rfl | exact r_pickF (v := .bool _) rfl rfl) rfl rfl rfl ?_
              -- R18.10 8 := more.go:74 assign
              refine WL.v (by first | exact r_assign (v := .bool _) rfl | exact r_assign rfl) rfl rfl rfl ?_
              refine WL.fin hK1153 (fun _ _ h => h) ?_
              refine WC.seq fun K1154 hK1154 => ?_
              -- region 19
              refine WC.region ?_
              -- R19.0 171 := more.go:75 move
              refine WL.v (by first | exact r_move (v := .bool _) rfl | exact r_move rfl) rfl rfl rfl ?_
              -- R19.1 172 := more.go:75 move
              refine WL.v (by first | exact r_move (v := .bool _) rfl | exact r_move rfl) rfl rfl rfl ?_
              -- R19.2 173 := more.go:75 move
              refine WL.no rfl rfl ?_
              -- R19.3 174 := more.go:75 fieldAddr
              refine WL.no rfl rfl ?_
              -- R19.4 175 := more.go:75 fieldAddr
              refine WL.no rfl rfl ?_
              -- R19.5 176 := more.go:75 load
              refine WL.no rfl rfl ?_
              -- R19.6 177 := more.go:75 binOp
              refine WL.no rfl rfl ?_
              -- R19.7 178 := more.go:75 binOp
              refine WL.no rfl rfl ?_
              -- R19.8 179 := more.go:75 pick
              refine WL.v (by first | exact r_pickT (v := .bool _) rfl rfl | exact r_pickF (v := .bool _) rfl rfl) rfl rfl rfl ?_
              refine WL.fin hK1154 (fun _ _ h => h) ?_
              refine WC.condF rfl rfl ?_
              refine WC.skipJ hKC (fun _ _ h => h) () (by rw [hcs]; exact st) (by repeat (first | exact sub_nil _ | refine sub_cons rfl rfl ?_))
            · skip
              refine WC.seq fun K1155 hK1155 => ?_
              -- region 6
              refine WC.region ?_
              -- R6.0 60 := more.go:62 fieldAddr
              refine WL.v (by exact r_field ty_fld36_0 rfl) rfl rfl rfl ?_
              -- R6.1 61 := more.go:62 fieldAddr
              refine WL.v (by exact r_field ty_fld28_0 rfl) rfl rfl rfl ?_
              -- R6.2 62 := more.go:62 load
              refine WL.v (by exact r_load1 (v := .int .u8 (o.kind : Nat)) ty_one25 rfl (by rw [← f0]; exact st.c1 (by decide))) rfl rfl rfl ?_
              refine WL.fin hK1155 (fun _ _ h => h) ?_
              refine WC.block ?_
              refine WC.seq fun K1156 hK1156 => ?_
              -- region 7
              refine WC.region ?_
              -- R7.0 64 := more.go:63 binOp
              refine WL.v (by first | exact r_eql rfl rfl (decide_eq_true (by omega)) | exact r_eql rfl rfl (decide_eq_false (by omega)) | exact r_eql rfl rfl rfl) rfl rfl rfl ?_
              -- R7.1 63 := more.go:63 assign
              refine WL.v (by first | exact r_assign (v := .bool _) rfl | exact r_assign rfl) rfl rfl rfl ?_
              refine WL.fin hK1156 (fun _ _ h => h) ?_
              refine WC.condF rfl rfl ?_
              refine WC.seq fun K1157 hK1157 => ?_
              refine WC.seq fun K1158 hK1158 => ?_
              -- region 14
              refine WC.region ?_
              -- R14.0 127 := more.go:72 binOp
              refine WL.v (by first | exact r_eql rfl rfl (decide_eq_true (by omega)) | exact r_eql rfl rfl (decide_eq_false (by omega)) | exact r_eql rfl rfl rfl) rfl rfl rfl ?_
              -- R14.1 126 := more.go:72 assign
              refine WL.v (by first | exact r_assign (v := .bool _) rfl | exact r_assign rfl) rfl rfl rfl ?_
              refine WL.fin hK1158 (fun _ _ h => h) ?_
              refine WC.condF rfl rfl ?_
              refine WC.seq fun K1159 hK1159 => ?_
              -- region 15
              refine WC.region ?_
              -- R15.0 128 := more.go:72 binOp
              refine WL.v (by first | exact r_eql rfl rfl (decide_eq_true (by omega)) | exact r_eql rfl rfl (decide_eq_false (by omega)) | exact r_eql rfl rfl rfl) rfl rfl rfl ?_
              -- R15.1 126 := more.go:72 assign
              refine WL.v (by first | exact r_assign (v := .bool _) rfl | exact r_assign rfl) rfl rfl rfl ?_
              refine WL.fin hK1159 (fun _ _ h => h) ?_
              refine WC.condF rfl rfl ?_
              -- region 16
              refine WC.region ?_
              -- R16.0 129 := more.go:72 binOp
              refine WL.v (by first | exact r_eql rfl rfl (decide_eq_true (by omega)) | exact r_eql rfl rfl (decide_eq_false (by omega)) | exact r_eql rfl rfl rfl) rfl rfl rfl ?_
              -- R16.1 126 := more.go:72 assign
              refine WL.v (by first | exact r_assign (v := .bool _) rfl | exact r_assign rfl) rfl rfl rfl ?_
              refine WL.fin hK1157 (fun _ _ h => h) ?_
              refine WC.condT rfl rfl ?_
              refine WC.seq fun K1160 hK1160 => ?_
              -- region 17 (draws)
              refine WC.quietS st ty_mixed (by kernel_rfl) fun Kq hKq => ?_
              -- R17.0 130 := more.go:73 fieldAddr
              refine QL.v (fun w st => by exact r_field ty_fld36_1 rfl) rfl rfl rfl ?_
              -- R17.1 131 := more.go:73 load
              refine QL.v (fun w st => by exact r_load1 (v := .pointer (some ⟨bB, 0, none⟩)) ty_one29 rfl (by rw [← f5]; exact st.c1 (by decide))) rfl rfl rfl ?_
              -- R17.2 132 := more.go:73 nilCheck
              refine QL.v (fun w st => by exact r_nilCheck rfl) rfl rfl rfl ?_
              -- R17.3 133 := more.go:73 fieldAddr
              refine QL.v (fun w st => by exact r_field ty_fld50_0 rfl) rfl rfl rfl ?_
              -- R17.4 134 := more.go:73 load
              refine QL.v (fun w st => by exact r_load1 (v := .int .i64 (s.mode : Nat)) ty_one40 rfl (c_s (hck2 _ _).B (by decide) rfl st)) rfl rfl rfl ?_
              -- R17.5 135 := more.go:73 binOp
              refine QL.v (fun w st => by first | exact r_eql rfl rfl (decide_eq_true (by omega)) | exact r_eql rfl rfl (decide_eq_false (by omega)) | exact r_eql rfl rfl rfl) rfl rfl rfl ?_
              -- R17.6 136 := more.go:73 move
              refine QL.v (fun w st => by first | exact r_move (v := .bool _) rfl | exact r_move rfl) rfl rfl rfl ?_
              -- R17.7 137 := more.go:73 fieldAddr
              refine QL.v (fun w st => by exact r_field ty_fld36_0 rfl) rfl rfl rfl ?_
              -- R17.8 138 := more.go:73 fieldAddr
              refine QL.v (fun w st => by exact r_field ty_fld28_3 rfl) rfl rfl rfl ?_
              -- R17.9 139 := more.go:73 load
              refine QL.v (fun w st => by exact r_load1 (v := .int .i64 o.C) ty_one2 rfl (by rw [← f3]; exact st.c1 (by decide))) rfl rfl rfl ?_
              -- R17.10 140 := more.go:73 fieldAddr
              refine QL.v (fun w st => by exact r_field ty_fld36_1 rfl) rfl rfl rfl ?_
              -- R17.11 141 := more.go:73 load
              refine QL.v (fun w st => by exact r_load1 (v := .pointer (some ⟨bB, 0, none⟩)) ty_one29 rfl (by rw [← f5]; exact st.c1 (by decide))) rfl rfl rfl ?_
              -- R17.12 142 := more.go:73 move
              refine QL.v (fun w st => by exact r_move (v := .int .i64 (t : Nat)) (congrArg (Value.int .i64) hT)) rfl rfl rfl ?_
              -- R17.13 143 := more.go:73 move
              refine QL.v (fun w st => by first | exact r_move (v := .int _ _) rfl | exact r_move rfl) rfl rfl rfl ?_
              -- R17.14 144 := more.go:73 nilCheck
              refine QL.v (fun w st => by exact r_nilCheck rfl) rfl rfl rfl ?_
              -- R17.15 145 := more.go:73 fieldAddr
              refine QL.v (fun w st => by exact r_field ty_fld50_5 rfl) rfl rfl rfl ?_
              -- R17.16 146 := more.go:73 indexAddr
              refine QL.v (fun w st => by exact r_indexA (j := t) ty_ar45 rfl rfl rfl ht16) rfl rfl rfl ?_
              -- R17.17 147 := more.go:73 indexAddr
              refine QL.v (fun w st => by exact r_indexA (j := r) ty_ar44 rfl rfl rfl hr20) rfl rfl rfl ?_
              -- R17.18 148 := more.go:73 load
              refine QL.v (fun w st => by exact r_load1 (v := .int .i64 (s.claim t r : Nat)) ty_one3 rfl (c_sC (hck2 _ _).B ht16 hr20 (by omega) st)) rfl rfl rfl ?_
              -- R17.19 149 := more.go:73 fieldAddr
              refine QL.v (fun w st => by exact r_field ty_fld36_1 rfl) rfl rfl rfl ?_
              -- R17.20 150 := more.go:73 load
              refine QL.v (fun w st => by exact r_load1 (v := .pointer (some ⟨bB, 0, none⟩)) ty_one29 rfl (by rw [← f5]; exact st.c1 (by decide))) rfl rfl rfl ?_
              -- R17.21 151 := more.go:73 move
              refine QL.v (fun w st => by exact r_move (v := .int .i64 (t : Nat)) (congrArg (Value.int .i64) hT)) rfl rfl rfl ?_
              -- R17.22 152 := more.go:73 move
              refine QL.v (fun w st => by first | exact r_move (v := .int _ _) rfl | exact r_move rfl) rfl rfl rfl ?_
              -- R17.23 153 := more.go:73 nilCheck
              refine QL.v (fun w st => by exact r_nilCheck rfl) rfl rfl rfl ?_
              -- R17.24 154 := more.go:73 fieldAddr
              refine QL.v (fun w st => by exact r_field ty_fld50_4 rfl) rfl rfl rfl ?_
              -- R17.25 155 := more.go:73 indexAddr
              refine QL.v (fun w st => by exact r_indexA (j := t) ty_ar45 rfl rfl rfl ht16) rfl rfl rfl ?_
              -- R17.26 156 := more.go:73 indexAddr
              refine QL.v (fun w st => by exact r_indexA (j := r) ty_ar44 rfl rfl rfl hr20) rfl rfl rfl ?_
              -- R17.27 157 := more.go:73 load
              refine QL.v (fun w st => by exact r_load1 (v := .int .i64 (s.held t r : Nat)) ty_one3 rfl (c_sH (hck2 _ _).B ht16 hr20 (by omega) st)) rfl rfl rfl ?_
              -- R17.28 158 := more.go:73 binOp
              refine QL.v (fun w st => by exact r_sub (r := (s.claim t r : Int) - s.held t r) rfl rfl (wi64 (by omega) (by omega))) rfl rfl rfl ?_
              -- R17.29 159 := more.go:73 binOp
              refine QL.v (fun w st => by exact r_gtr rfl rfl (decide_eq_true hnc)) rfl rfl rfl ?_
              -- R17.30 160 := more.go:73 pick
              refine QL.v (fun w st => by first | exact r_pickT (v := .bool _) rfl rfl | exact r_pickF (v := .bool _) rfl rfl) rfl rfl rfl ?_
              -- R17.31 7 := more.go:73 assign
              refine QL.v (fun w st => by first | exact r_assign (v := .bool _) rfl | exact r_assign rfl) rfl rfl rfl ?_
              refine QL.wl hKq fun w st => ?_
              refine WL.fin hK1160 (fun _ _ h => h) ?_
              refine WC.seq fun K1161 hK1161 => ?_
              -- region 18
              refine WC.region ?_
              -- R18.0 161 := more.go:74 fieldAddr
              refine WL.v (by exact r_field ty_fld36_3 rfl) rfl rfl rfl ?_
              -- R18.1 162 := more.go:74 fieldAddr
              refine WL.v (by exact r_field ty_fld34_0 rfl) rfl rfl rfl ?_
              -- R18.2 163 := more.go:74 load
              refine WL.v (by exact r_load1 (v := .int .i64 code) ty_one30 rfl (by rw [← f7]; exact st.c1 (by decide))) rfl rfl rfl ?_
              -- R18.3 164 := more.go:74 binOp
              refine WL.v (by first | exact r_neq rfl rfl (decide_eq_true (by omega)) | exact r_neq rfl rfl (decide_eq_false (by omega)) | exact r_neq rfl rfl rfl) rfl rfl rfl ?_
              -- R18.4 165 := more.go:74 move
              refine WL.v (by first | exact r_move (v := .bool _) rfl | exact r_move rfl) rfl rfl rfl ?_
              -- R18.5 166 := more.go:74 fieldAddr
              refine WL.v (by exact r_field ty_fld36_3 rfl) rfl rfl rfl ?_
              -- R18.6 167 := more.go:74 fieldAddr
              refine WL.v (by exact r_field ty_fld34_0 rfl) rfl rfl rfl ?_
              -- R18.7 168 := more.go:74 load
              refine WL.v (by exact r_load1 (v := .int .i64 code) ty_one30 rfl (by rw [← f7]; exact st.c1 (by decide))) rfl rfl rfl ?_
              -- R18.8 169 := more.go:74 binOp
              refine WL.v (by first | exact r_neq rfl rfl (decide_eq_true (by omega)) | exact r_neq rfl rfl (decide_eq_false (by omega)) | exact r_neq rfl rfl rfl) rfl rfl rfl ?_
              -- R18.9 170 := more.go:74 pick
              refine WL.v (by first | exact r_pickT (v := .bool _) rfl rfl | exact r_pickF (v := .bool _) rfl rfl) rfl rfl rfl ?_
              -- R18.10 8 := more.go:74 assign
              refine WL.v (by first | exact r_assign (v := .bool _) rfl | exact r_assign rfl) rfl rfl rfl ?_
              refine WL.fin hK1161 (fun _ _ h => h) ?_
              refine WC.seq fun K1162 hK1162 => ?_
              -- region 19
              refine WC.region ?_
              -- R19.0 171 := more.go:75 move
              refine WL.v (by first | exact r_move (v := .bool _) rfl | exact r_move rfl) rfl rfl rfl ?_
              -- R19.1 172 := more.go:75 move
              refine WL.v (by first | exact r_move (v := .bool _) rfl | exact r_move rfl) rfl rfl rfl ?_
              -- R19.2 173 := more.go:75 move
              refine WL.no rfl rfl ?_
              -- R19.3 174 := more.go:75 fieldAddr
              refine WL.no rfl rfl ?_
              -- R19.4 175 := more.go:75 fieldAddr
              refine WL.no rfl rfl ?_
              -- R19.5 176 := more.go:75 load
              refine WL.no rfl rfl ?_
              -- R19.6 177 := more.go:75 binOp
              refine WL.no rfl rfl ?_
              -- R19.7 178 := more.go:75 binOp
              refine WL.no rfl rfl ?_
              -- R19.8 179 := more.go:75 pick
              refine WL.v (by first | exact r_pickT (v := .bool _) rfl rfl | exact r_pickF (v := .bool _) rfl rfl) rfl rfl rfl ?_
              refine WL.fin hK1162 (fun _ _ h => h) ?_
              refine WC.condF rfl rfl ?_
              refine WC.skipJ hKC (fun _ _ h => h) () (by rw [hcs]; exact st) (by repeat (first | exact sub_nil _ | refine sub_cons rfl rfl ?_))
          have hiff := ha' h14 h15
          have h21 : code = 21 := hiff.1 ⟨hm3, hnc⟩
          rcases (by omega : o.kind = 3 ∨ o.kind = 4 ∨ o.kind = 5) with hk3 | hk4 | hk5
          · skip
            refine WC.seq fun K1163 hK1163 => ?_
            -- region 6
            refine WC.region ?_
            -- R6.0 60 := more.go:62 fieldAddr
            refine WL.v (by exact r_field ty_fld36_0 rfl) rfl rfl rfl ?_
            -- R6.1 61 := more.go:62 fieldAddr
            refine WL.v (by exact r_field ty_fld28_0 rfl) rfl rfl rfl ?_
            -- R6.2 62 := more.go:62 load
            refine WL.v (by exact r_load1 (v := .int .u8 (o.kind : Nat)) ty_one25 rfl (by rw [← f0]; exact st.c1 (by decide))) rfl rfl rfl ?_
            refine WL.fin hK1163 (fun _ _ h => h) ?_
            refine WC.block ?_
            refine WC.seq fun K1164 hK1164 => ?_
            -- region 7
            refine WC.region ?_
            -- R7.0 64 := more.go:63 binOp
            refine WL.v (by first | exact r_eql rfl rfl (decide_eq_true (by omega)) | exact r_eql rfl rfl (decide_eq_false (by omega)) | exact r_eql rfl rfl rfl) rfl rfl rfl ?_
            -- R7.1 63 := more.go:63 assign
            refine WL.v (by first | exact r_assign (v := .bool _) rfl | exact r_assign rfl) rfl rfl rfl ?_
            refine WL.fin hK1164 (fun _ _ h => h) ?_
            refine WC.condF rfl rfl ?_
            refine WC.seq fun K1165 hK1165 => ?_
            refine WC.seq fun K1166 hK1166 => ?_
            -- region 14
            refine WC.region ?_
            -- R14.0 127 := more.go:72 binOp
            refine WL.v (by first | exact r_eql rfl rfl (decide_eq_true (by omega)) | exact r_eql rfl rfl (decide_eq_false (by omega)) | exact r_eql rfl rfl rfl) rfl rfl rfl ?_
            -- R14.1 126 := more.go:72 assign
            refine WL.v (by first | exact r_assign (v := .bool _) rfl | exact r_assign rfl) rfl rfl rfl ?_
            refine WL.fin hK1166 (fun _ _ h => h) ?_
            refine WC.condT rfl rfl ?_
            refine WC.skipF hK1165 (fun _ _ h => h) ?_
            refine WC.condT rfl rfl ?_
            refine WC.seq fun K1167 hK1167 => ?_
            -- region 17 (draws)
            refine WC.quietS st ty_mixed (by kernel_rfl) fun Kq hKq => ?_
            -- R17.0 130 := more.go:73 fieldAddr
            refine QL.v (fun w st => by exact r_field ty_fld36_1 rfl) rfl rfl rfl ?_
            -- R17.1 131 := more.go:73 load
            refine QL.v (fun w st => by exact r_load1 (v := .pointer (some ⟨bB, 0, none⟩)) ty_one29 rfl (by rw [← f5]; exact st.c1 (by decide))) rfl rfl rfl ?_
            -- R17.2 132 := more.go:73 nilCheck
            refine QL.v (fun w st => by exact r_nilCheck rfl) rfl rfl rfl ?_
            -- R17.3 133 := more.go:73 fieldAddr
            refine QL.v (fun w st => by exact r_field ty_fld50_0 rfl) rfl rfl rfl ?_
            -- R17.4 134 := more.go:73 load
            refine QL.v (fun w st => by exact r_load1 (v := .int .i64 (s.mode : Nat)) ty_one40 rfl (c_s (hck2 _ _).B (by decide) rfl st)) rfl rfl rfl ?_
            -- R17.5 135 := more.go:73 binOp
            refine QL.v (fun w st => by first | exact r_eql rfl rfl (decide_eq_true (by omega)) | exact r_eql rfl rfl (decide_eq_false (by omega)) | exact r_eql rfl rfl rfl) rfl rfl rfl ?_
            -- R17.6 136 := more.go:73 move
            refine QL.v (fun w st => by first | exact r_move (v := .bool _) rfl | exact r_move rfl) rfl rfl rfl ?_
            -- R17.7 137 := more.go:73 fieldAddr
            refine QL.v (fun w st => by exact r_field ty_fld36_0 rfl) rfl rfl rfl ?_
            -- R17.8 138 := more.go:73 fieldAddr
            refine QL.v (fun w st => by exact r_field ty_fld28_3 rfl) rfl rfl rfl ?_
            -- R17.9 139 := more.go:73 load
            refine QL.v (fun w st => by exact r_load1 (v := .int .i64 o.C) ty_one2 rfl (by rw [← f3]; exact st.c1 (by decide))) rfl rfl rfl ?_
            -- R17.10 140 := more.go:73 fieldAddr
            refine QL.v (fun w st => by exact r_field ty_fld36_1 rfl) rfl rfl rfl ?_
            -- R17.11 141 := more.go:73 load
            refine QL.v (fun w st => by exact r_load1 (v := .pointer (some ⟨bB, 0, none⟩)) ty_one29 rfl (by rw [← f5]; exact st.c1 (by decide))) rfl rfl rfl ?_
            -- R17.12 142 := more.go:73 move
            refine QL.v (fun w st => by exact r_move (v := .int .i64 (t : Nat)) (congrArg (Value.int .i64) hT)) rfl rfl rfl ?_
            -- R17.13 143 := more.go:73 move
            refine QL.v (fun w st => by first | exact r_move (v := .int _ _) rfl | exact r_move rfl) rfl rfl rfl ?_
            -- R17.14 144 := more.go:73 nilCheck
            refine QL.v (fun w st => by exact r_nilCheck rfl) rfl rfl rfl ?_
            -- R17.15 145 := more.go:73 fieldAddr
            refine QL.v (fun w st => by exact r_field ty_fld50_5 rfl) rfl rfl rfl ?_
            -- R17.16 146 := more.go:73 indexAddr
            refine QL.v (fun w st => by exact r_indexA (j := t) ty_ar45 rfl rfl rfl ht16) rfl rfl rfl ?_
            -- R17.17 147 := more.go:73 indexAddr
            refine QL.v (fun w st => by exact r_indexA (j := r) ty_ar44 rfl rfl rfl hr20) rfl rfl rfl ?_
            -- R17.18 148 := more.go:73 load
            refine QL.v (fun w st => by exact r_load1 (v := .int .i64 (s.claim t r : Nat)) ty_one3 rfl (c_sC (hck2 _ _).B ht16 hr20 (by omega) st)) rfl rfl rfl ?_
            -- R17.19 149 := more.go:73 fieldAddr
            refine QL.v (fun w st => by exact r_field ty_fld36_1 rfl) rfl rfl rfl ?_
            -- R17.20 150 := more.go:73 load
            refine QL.v (fun w st => by exact r_load1 (v := .pointer (some ⟨bB, 0, none⟩)) ty_one29 rfl (by rw [← f5]; exact st.c1 (by decide))) rfl rfl rfl ?_
            -- R17.21 151 := more.go:73 move
            refine QL.v (fun w st => by exact r_move (v := .int .i64 (t : Nat)) (congrArg (Value.int .i64) hT)) rfl rfl rfl ?_
            -- R17.22 152 := more.go:73 move
            refine QL.v (fun w st => by first | exact r_move (v := .int _ _) rfl | exact r_move rfl) rfl rfl rfl ?_
            -- R17.23 153 := more.go:73 nilCheck
            refine QL.v (fun w st => by exact r_nilCheck rfl) rfl rfl rfl ?_
            -- R17.24 154 := more.go:73 fieldAddr
            refine QL.v (fun w st => by exact r_field ty_fld50_4 rfl) rfl rfl rfl ?_
            -- R17.25 155 := more.go:73 indexAddr
            refine QL.v (fun w st => by exact r_indexA (j := t) ty_ar45 rfl rfl rfl ht16) rfl rfl rfl ?_
            -- R17.26 156 := more.go:73 indexAddr
            refine QL.v (fun w st => by exact r_indexA (j := r) ty_ar44 rfl rfl rfl hr20) rfl rfl rfl ?_
            -- R17.27 157 := more.go:73 load
            refine QL.v (fun w st => by exact r_load1 (v := .int .i64 (s.held t r : Nat)) ty_one3 rfl (c_sH (hck2 _ _).B ht16 hr20 (by omega) st)) rfl rfl rfl ?_
            -- R17.28 158 := more.go:73 binOp
            refine QL.v (fun w st => by exact r_sub (r := (s.claim t r : Int) - s.held t r) rfl rfl (wi64 (by omega) (by omega))) rfl rfl rfl ?_
            -- R17.29 159 := more.go:73 binOp
            refine QL.v (fun w st => by exact r_gtr rfl rfl (decide_eq_true hnc)) rfl rfl rfl ?_
            -- R17.30 160 := more.go:73 pick
            refine QL.v (fun w st => by first | exact r_pickT (v := .bool _) rfl rfl | exact r_pickF (v := .bool _) rfl rfl) rfl rfl rfl ?_
            -- R17.31 7 := more.go:73 assign
            refine QL.v (fun w st => by first | exact r_assign (v := .bool _) rfl | exact r_assign rfl) rfl rfl rfl ?_
            refine QL.wl hKq fun w st => ?_
            refine WL.fin hK1167 (fun _ _ h => h) ?_
            refine WC.seq fun K1168 hK1168 => ?_
            -- region 18
            refine WC.region ?_
            -- R18.0 161 := more.go:74 fieldAddr
            refine WL.v (by exact r_field ty_fld36_3 rfl) rfl rfl rfl ?_
            -- R18.1 162 := more.go:74 fieldAddr
            refine WL.v (by exact r_field ty_fld34_0 rfl) rfl rfl rfl ?_
            -- R18.2 163 := more.go:74 load
            refine WL.v (by exact r_load1 (v := .int .i64 code) ty_one30 rfl (by rw [← f7]; exact st.c1 (by decide))) rfl rfl rfl ?_
            -- R18.3 164 := more.go:74 binOp
            refine WL.v (by first | exact r_neq rfl rfl (decide_eq_true (by omega)) | exact r_neq rfl rfl (decide_eq_false (by omega)) | exact r_neq rfl rfl rfl) rfl rfl rfl ?_
            -- R18.4 165 := more.go:74 move
            refine WL.v (by first | exact r_move (v := .bool _) rfl | exact r_move rfl) rfl rfl rfl ?_
            -- R18.5 166 := more.go:74 fieldAddr
            refine WL.v (by exact r_field ty_fld36_3 rfl) rfl rfl rfl ?_
            -- R18.6 167 := more.go:74 fieldAddr
            refine WL.v (by exact r_field ty_fld34_0 rfl) rfl rfl rfl ?_
            -- R18.7 168 := more.go:74 load
            refine WL.v (by exact r_load1 (v := .int .i64 code) ty_one30 rfl (by rw [← f7]; exact st.c1 (by decide))) rfl rfl rfl ?_
            -- R18.8 169 := more.go:74 binOp
            refine WL.v (by first | exact r_neq rfl rfl (decide_eq_true (by omega)) | exact r_neq rfl rfl (decide_eq_false (by omega)) | exact r_neq rfl rfl rfl) rfl rfl rfl ?_
            -- R18.9 170 := more.go:74 pick
            refine WL.v (by first | exact r_pickT (v := .bool _) rfl rfl | exact r_pickF (v := .bool _) rfl rfl) rfl rfl rfl ?_
            -- R18.10 8 := more.go:74 assign
            refine WL.v (by first | exact r_assign (v := .bool _) rfl | exact r_assign rfl) rfl rfl rfl ?_
            refine WL.fin hK1168 (fun _ _ h => h) ?_
            refine WC.seq fun K1169 hK1169 => ?_
            -- region 19
            refine WC.region ?_
            -- R19.0 171 := more.go:75 move
            refine WL.v (by first | exact r_move (v := .bool _) rfl | exact r_move rfl) rfl rfl rfl ?_
            -- R19.1 172 := more.go:75 move
            refine WL.v (by first | exact r_move (v := .bool _) rfl | exact r_move rfl) rfl rfl rfl ?_
            -- R19.2 173 := more.go:75 move
            refine WL.v (by first | exact r_move (v := .bool _) rfl | exact r_move rfl) rfl rfl rfl ?_
            -- R19.3 174 := more.go:75 fieldAddr
            refine WL.v (by exact r_field ty_fld36_3 rfl) rfl rfl rfl ?_
            -- R19.4 175 := more.go:75 fieldAddr
            refine WL.v (by exact r_field ty_fld34_0 rfl) rfl rfl rfl ?_
            -- R19.5 176 := more.go:75 load
            refine WL.v (by exact r_load1 (v := .int .i64 code) ty_one30 rfl (by rw [← f7]; exact st.c1 (by decide))) rfl rfl rfl ?_
            -- R19.6 177 := more.go:75 binOp
            refine WL.v (by first | exact r_eql rfl rfl (decide_eq_true (by omega)) | exact r_eql rfl rfl (decide_eq_false (by omega)) | exact r_eql rfl rfl rfl) rfl rfl rfl ?_
            -- R19.7 178 := more.go:75 binOp
            refine WL.v (by exact r_bneq ty_bool4 rfl rfl rfl) rfl rfl rfl ?_
            -- R19.8 179 := more.go:75 pick
            refine WL.v (by first | exact r_pickT (v := .bool _) rfl rfl | exact r_pickF (v := .bool _) rfl rfl) rfl rfl rfl ?_
            refine WL.fin hK1169 (fun _ _ h => h) ?_
            refine WC.condF rfl rfl ?_
            refine WC.skipJ hKC (fun _ _ h => h) () (by rw [hcs]; exact st) (by repeat (first | exact sub_nil _ | refine sub_cons rfl rfl ?_))
          · skip
            refine WC.seq fun K1170 hK1170 => ?_
            -- region 6
            refine WC.region ?_
            -- R6.0 60 := more.go:62 fieldAddr
            refine WL.v (by exact r_field ty_fld36_0 rfl) rfl rfl rfl ?_
            -- R6.1 61 := more.go:62 fieldAddr
            refine WL.v (by exact r_field ty_fld28_0 rfl) rfl rfl rfl ?_
            -- R6.2 62 := more.go:62 load
            refine WL.v (by exact r_load1 (v := .int .u8 (o.kind : Nat)) ty_one25 rfl (by rw [← f0]; exact st.c1 (by decide))) rfl rfl rfl ?_
            refine WL.fin hK1170 (fun _ _ h => h) ?_
            refine WC.block ?_
            refine WC.seq fun K1171 hK1171 => ?_
            -- region 7
            refine WC.region ?_
            -- R7.0 64 := more.go:63 binOp
            refine WL.v (by first | exact r_eql rfl rfl (decide_eq_true (by omega)) | exact r_eql rfl rfl (decide_eq_false (by omega)) | exact r_eql rfl rfl rfl) rfl rfl rfl ?_
            -- R7.1 63 := more.go:63 assign
            refine WL.v (by first | exact r_assign (v := .bool _) rfl | exact r_assign rfl) rfl rfl rfl ?_
            refine WL.fin hK1171 (fun _ _ h => h) ?_
            refine WC.condF rfl rfl ?_
            refine WC.seq fun K1172 hK1172 => ?_
            refine WC.seq fun K1173 hK1173 => ?_
            -- region 14
            refine WC.region ?_
            -- R14.0 127 := more.go:72 binOp
            refine WL.v (by first | exact r_eql rfl rfl (decide_eq_true (by omega)) | exact r_eql rfl rfl (decide_eq_false (by omega)) | exact r_eql rfl rfl rfl) rfl rfl rfl ?_
            -- R14.1 126 := more.go:72 assign
            refine WL.v (by first | exact r_assign (v := .bool _) rfl | exact r_assign rfl) rfl rfl rfl ?_
            refine WL.fin hK1173 (fun _ _ h => h) ?_
            refine WC.condF rfl rfl ?_
            refine WC.seq fun K1174 hK1174 => ?_
            -- region 15
            refine WC.region ?_
            -- R15.0 128 := more.go:72 binOp
            refine WL.v (by first | exact r_eql rfl rfl (decide_eq_true (by omega)) | exact r_eql rfl rfl (decide_eq_false (by omega)) | exact r_eql rfl rfl rfl) rfl rfl rfl ?_
            -- R15.1 126 := more.go:72 assign
            refine WL.v (by first | exact r_assign (v := .bool _) rfl | exact r_assign rfl) rfl rfl rfl ?_
            refine WL.fin hK1174 (fun _ _ h => h) ?_
            refine WC.condT rfl rfl ?_
            refine WC.skipF hK1172 (fun _ _ h => h) ?_
            refine WC.condT rfl rfl ?_
            refine WC.seq fun K1175 hK1175 => ?_
            -- region 17 (draws)
            refine WC.quietS st ty_mixed (by kernel_rfl) fun Kq hKq => ?_
            -- R17.0 130 := more.go:73 fieldAddr
            refine QL.v (fun w st => by exact r_field ty_fld36_1 rfl) rfl rfl rfl ?_
            -- R17.1 131 := more.go:73 load
            refine QL.v (fun w st => by exact r_load1 (v := .pointer (some ⟨bB, 0, none⟩)) ty_one29 rfl (by rw [← f5]; exact st.c1 (by decide))) rfl rfl rfl ?_
            -- R17.2 132 := more.go:73 nilCheck
            refine QL.v (fun w st => by exact r_nilCheck rfl) rfl rfl rfl ?_
            -- R17.3 133 := more.go:73 fieldAddr
            refine QL.v (fun w st => by exact r_field ty_fld50_0 rfl) rfl rfl rfl ?_
            -- R17.4 134 := more.go:73 load
            refine QL.v (fun w st => by exact r_load1 (v := .int .i64 (s.mode : Nat)) ty_one40 rfl (c_s (hck2 _ _).B (by decide) rfl st)) rfl rfl rfl ?_
            -- R17.5 135 := more.go:73 binOp
            refine QL.v (fun w st => by first | exact r_eql rfl rfl (decide_eq_true (by omega)) | exact r_eql rfl rfl (decide_eq_false (by omega)) | exact r_eql rfl rfl rfl) rfl rfl rfl ?_
            -- R17.6 136 := more.go:73 move
            refine QL.v (fun w st => by first | exact r_move (v := .bool _) rfl | exact r_move rfl) rfl rfl rfl ?_
            -- R17.7 137 := more.go:73 fieldAddr
            refine QL.v (fun w st => by exact r_field ty_fld36_0 rfl) rfl rfl rfl ?_
            -- R17.8 138 := more.go:73 fieldAddr
            refine QL.v (fun w st => by exact r_field ty_fld28_3 rfl) rfl rfl rfl ?_
            -- R17.9 139 := more.go:73 load
            refine QL.v (fun w st => by exact r_load1 (v := .int .i64 o.C) ty_one2 rfl (by rw [← f3]; exact st.c1 (by decide))) rfl rfl rfl ?_
            -- R17.10 140 := more.go:73 fieldAddr
            refine QL.v (fun w st => by exact r_field ty_fld36_1 rfl) rfl rfl rfl ?_
            -- R17.11 141 := more.go:73 load
            refine QL.v (fun w st => by exact r_load1 (v := .pointer (some ⟨bB, 0, none⟩)) ty_one29 rfl (by rw [← f5]; exact st.c1 (by decide))) rfl rfl rfl ?_
            -- R17.12 142 := more.go:73 move
            refine QL.v (fun w st => by exact r_move (v := .int .i64 (t : Nat)) (congrArg (Value.int .i64) hT)) rfl rfl rfl ?_
            -- R17.13 143 := more.go:73 move
            refine QL.v (fun w st => by first | exact r_move (v := .int _ _) rfl | exact r_move rfl) rfl rfl rfl ?_
            -- R17.14 144 := more.go:73 nilCheck
            refine QL.v (fun w st => by exact r_nilCheck rfl) rfl rfl rfl ?_
            -- R17.15 145 := more.go:73 fieldAddr
            refine QL.v (fun w st => by exact r_field ty_fld50_5 rfl) rfl rfl rfl ?_
            -- R17.16 146 := more.go:73 indexAddr
            refine QL.v (fun w st => by exact r_indexA (j := t) ty_ar45 rfl rfl rfl ht16) rfl rfl rfl ?_
            -- R17.17 147 := more.go:73 indexAddr
            refine QL.v (fun w st => by exact r_indexA (j := r) ty_ar44 rfl rfl rfl hr20) rfl rfl rfl ?_
            -- R17.18 148 := more.go:73 load
            refine QL.v (fun w st => by exact r_load1 (v := .int .i64 (s.claim t r : Nat)) ty_one3 rfl (c_sC (hck2 _ _).B ht16 hr20 (by omega) st)) rfl rfl rfl ?_
            -- R17.19 149 := more.go:73 fieldAddr
            refine QL.v (fun w st => by exact r_field ty_fld36_1 rfl) rfl rfl rfl ?_
            -- R17.20 150 := more.go:73 load
            refine QL.v (fun w st => by exact r_load1 (v := .pointer (some ⟨bB, 0, none⟩)) ty_one29 rfl (by rw [← f5]; exact st.c1 (by decide))) rfl rfl rfl ?_
            -- R17.21 151 := more.go:73 move
            refine QL.v (fun w st => by exact r_move (v := .int .i64 (t : Nat)) (congrArg (Value.int .i64) hT)) rfl rfl rfl ?_
            -- R17.22 152 := more.go:73 move
            refine QL.v (fun w st => by first | exact r_move (v := .int _ _) rfl | exact r_move rfl) rfl rfl rfl ?_
            -- R17.23 153 := more.go:73 nilCheck
            refine QL.v (fun w st => by exact r_nilCheck rfl) rfl rfl rfl ?_
            -- R17.24 154 := more.go:73 fieldAddr
            refine QL.v (fun w st => by exact r_field ty_fld50_4 rfl) rfl rfl rfl ?_
            -- R17.25 155 := more.go:73 indexAddr
            refine QL.v (fun w st => by exact r_indexA (j := t) ty_ar45 rfl rfl rfl ht16) rfl rfl rfl ?_
            -- R17.26 156 := more.go:73 indexAddr
            refine QL.v (fun w st => by exact r_indexA (j := r) ty_ar44 rfl rfl rfl hr20) rfl rfl rfl ?_
            -- R17.27 157 := more.go:73 load
            refine QL.v (fun w st => by exact r_load1 (v := .int .i64 (s.held t r : Nat)) ty_one3 rfl (c_sH (hck2 _ _).B ht16 hr20 (by omega) st)) rfl rfl rfl ?_
            -- R17.28 158 := more.go:73 binOp
            refine QL.v (fun w st => by exact r_sub (r := (s.claim t r : Int) - s.held t r) rfl rfl (wi64 (by omega) (by omega))) rfl rfl rfl ?_
            -- R17.29 159 := more.go:73 binOp
            refine QL.v (fun w st => by exact r_gtr rfl rfl (decide_eq_true hnc)) rfl rfl rfl ?_
            -- R17.30 160 := more.go:73 pick
            refine QL.v (fun w st => by first | exact r_pickT (v := .bool _) rfl rfl | exact r_pickF (v := .bool _) rfl rfl) rfl rfl rfl ?_
            -- R17.31 7 := more.go:73 assign
            refine QL.v (fun w st => by first | exact r_assign (v := .bool _) rfl | exact r_assign rfl) rfl rfl rfl ?_
            refine QL.wl hKq fun w st => ?_
            refine WL.fin hK1175 (fun _ _ h => h) ?_
            refine WC.seq fun K1176 hK1176 => ?_
            -- region 18
            refine WC.region ?_
            -- R18.0 161 := more.go:74 fieldAddr
            refine WL.v (by exact r_field ty_fld36_3 rfl) rfl rfl rfl ?_
            -- R18.1 162 := more.go:74 fieldAddr
            refine WL.v (by exact r_field ty_fld34_0 rfl) rfl rfl rfl ?_
            -- R18.2 163 := more.go:74 load
            refine WL.v (by exact r_load1 (v := .int .i64 code) ty_one30 rfl (by rw [← f7]; exact st.c1 (by decide))) rfl rfl rfl ?_
            -- R18.3 164 := more.go:74 binOp
            refine WL.v (by first | exact r_neq rfl rfl (decide_eq_true (by omega)) | exact r_neq rfl rfl (decide_eq_false (by omega)) | exact r_neq rfl rfl rfl) rfl rfl rfl ?_
            -- R18.4 165 := more.go:74 move
            refine WL.v (by first | exact r_move (v := .bool _) rfl | exact r_move rfl) rfl rfl rfl ?_
            -- R18.5 166 := more.go:74 fieldAddr
            refine WL.v (by exact r_field ty_fld36_3 rfl) rfl rfl rfl ?_
            -- R18.6 167 := more.go:74 fieldAddr
            refine WL.v (by exact r_field ty_fld34_0 rfl) rfl rfl rfl ?_
            -- R18.7 168 := more.go:74 load
            refine WL.v (by exact r_load1 (v := .int .i64 code) ty_one30 rfl (by rw [← f7]; exact st.c1 (by decide))) rfl rfl rfl ?_
            -- R18.8 169 := more.go:74 binOp
            refine WL.v (by first | exact r_neq rfl rfl (decide_eq_true (by omega)) | exact r_neq rfl rfl (decide_eq_false (by omega)) | exact r_neq rfl rfl rfl) rfl rfl rfl ?_
            -- R18.9 170 := more.go:74 pick
            refine WL.v (by first | exact r_pickT (v := .bool _) rfl rfl | exact r_pickF (v := .bool _) rfl rfl) rfl rfl rfl ?_
            -- R18.10 8 := more.go:74 assign
            refine WL.v (by first | exact r_assign (v := .bool _) rfl | exact r_assign rfl) rfl rfl rfl ?_
            refine WL.fin hK1176 (fun _ _ h => h) ?_
            refine WC.seq fun K1177 hK1177 => ?_
            -- region 19
            refine WC.region ?_
            -- R19.0 171 := more.go:75 move
            refine WL.v (by first | exact r_move (v := .bool _) rfl | exact r_move rfl) rfl rfl rfl ?_
            -- R19.1 172 := more.go:75 move
            refine WL.v (by first | exact r_move (v := .bool _) rfl | exact r_move rfl) rfl rfl rfl ?_
            -- R19.2 173 := more.go:75 move
            refine WL.v (by first | exact r_move (v := .bool _) rfl | exact r_move rfl) rfl rfl rfl ?_
            -- R19.3 174 := more.go:75 fieldAddr
            refine WL.v (by exact r_field ty_fld36_3 rfl) rfl rfl rfl ?_
            -- R19.4 175 := more.go:75 fieldAddr
            refine WL.v (by exact r_field ty_fld34_0 rfl) rfl rfl rfl ?_
            -- R19.5 176 := more.go:75 load
            refine WL.v (by exact r_load1 (v := .int .i64 code) ty_one30 rfl (by rw [← f7]; exact st.c1 (by decide))) rfl rfl rfl ?_
            -- R19.6 177 := more.go:75 binOp
            refine WL.v (by first | exact r_eql rfl rfl (decide_eq_true (by omega)) | exact r_eql rfl rfl (decide_eq_false (by omega)) | exact r_eql rfl rfl rfl) rfl rfl rfl ?_
            -- R19.7 178 := more.go:75 binOp
            refine WL.v (by exact r_bneq ty_bool4 rfl rfl rfl) rfl rfl rfl ?_
            -- R19.8 179 := more.go:75 pick
            refine WL.v (by first | exact r_pickT (v := .bool _) rfl rfl | exact r_pickF (v := .bool _) rfl rfl) rfl rfl rfl ?_
            refine WL.fin hK1177 (fun _ _ h => h) ?_
            refine WC.condF rfl rfl ?_
            refine WC.skipJ hKC (fun _ _ h => h) () (by rw [hcs]; exact st) (by repeat (first | exact sub_nil _ | refine sub_cons rfl rfl ?_))
          · skip
            refine WC.seq fun K1178 hK1178 => ?_
            -- region 6
            refine WC.region ?_
            -- R6.0 60 := more.go:62 fieldAddr
            refine WL.v (by exact r_field ty_fld36_0 rfl) rfl rfl rfl ?_
            -- R6.1 61 := more.go:62 fieldAddr
            refine WL.v (by exact r_field ty_fld28_0 rfl) rfl rfl rfl ?_
            -- R6.2 62 := more.go:62 load
            refine WL.v (by exact r_load1 (v := .int .u8 (o.kind : Nat)) ty_one25 rfl (by rw [← f0]; exact st.c1 (by decide))) rfl rfl rfl ?_
            refine WL.fin hK1178 (fun _ _ h => h) ?_
            refine WC.block ?_
            refine WC.seq fun K1179 hK1179 => ?_
            -- region 7
            refine WC.region ?_
            -- R7.0 64 := more.go:63 binOp
            refine WL.v (by first | exact r_eql rfl rfl (decide_eq_true (by omega)) | exact r_eql rfl rfl (decide_eq_false (by omega)) | exact r_eql rfl rfl rfl) rfl rfl rfl ?_
            -- R7.1 63 := more.go:63 assign
            refine WL.v (by first | exact r_assign (v := .bool _) rfl | exact r_assign rfl) rfl rfl rfl ?_
            refine WL.fin hK1179 (fun _ _ h => h) ?_
            refine WC.condF rfl rfl ?_
            refine WC.seq fun K1180 hK1180 => ?_
            refine WC.seq fun K1181 hK1181 => ?_
            -- region 14
            refine WC.region ?_
            -- R14.0 127 := more.go:72 binOp
            refine WL.v (by first | exact r_eql rfl rfl (decide_eq_true (by omega)) | exact r_eql rfl rfl (decide_eq_false (by omega)) | exact r_eql rfl rfl rfl) rfl rfl rfl ?_
            -- R14.1 126 := more.go:72 assign
            refine WL.v (by first | exact r_assign (v := .bool _) rfl | exact r_assign rfl) rfl rfl rfl ?_
            refine WL.fin hK1181 (fun _ _ h => h) ?_
            refine WC.condF rfl rfl ?_
            refine WC.seq fun K1182 hK1182 => ?_
            -- region 15
            refine WC.region ?_
            -- R15.0 128 := more.go:72 binOp
            refine WL.v (by first | exact r_eql rfl rfl (decide_eq_true (by omega)) | exact r_eql rfl rfl (decide_eq_false (by omega)) | exact r_eql rfl rfl rfl) rfl rfl rfl ?_
            -- R15.1 126 := more.go:72 assign
            refine WL.v (by first | exact r_assign (v := .bool _) rfl | exact r_assign rfl) rfl rfl rfl ?_
            refine WL.fin hK1182 (fun _ _ h => h) ?_
            refine WC.condF rfl rfl ?_
            -- region 16
            refine WC.region ?_
            -- R16.0 129 := more.go:72 binOp
            refine WL.v (by first | exact r_eql rfl rfl (decide_eq_true (by omega)) | exact r_eql rfl rfl (decide_eq_false (by omega)) | exact r_eql rfl rfl rfl) rfl rfl rfl ?_
            -- R16.1 126 := more.go:72 assign
            refine WL.v (by first | exact r_assign (v := .bool _) rfl | exact r_assign rfl) rfl rfl rfl ?_
            refine WL.fin hK1180 (fun _ _ h => h) ?_
            refine WC.condT rfl rfl ?_
            refine WC.seq fun K1183 hK1183 => ?_
            -- region 17 (draws)
            refine WC.quietS st ty_mixed (by kernel_rfl) fun Kq hKq => ?_
            -- R17.0 130 := more.go:73 fieldAddr
            refine QL.v (fun w st => by exact r_field ty_fld36_1 rfl) rfl rfl rfl ?_
            -- R17.1 131 := more.go:73 load
            refine QL.v (fun w st => by exact r_load1 (v := .pointer (some ⟨bB, 0, none⟩)) ty_one29 rfl (by rw [← f5]; exact st.c1 (by decide))) rfl rfl rfl ?_
            -- R17.2 132 := more.go:73 nilCheck
            refine QL.v (fun w st => by exact r_nilCheck rfl) rfl rfl rfl ?_
            -- R17.3 133 := more.go:73 fieldAddr
            refine QL.v (fun w st => by exact r_field ty_fld50_0 rfl) rfl rfl rfl ?_
            -- R17.4 134 := more.go:73 load
            refine QL.v (fun w st => by exact r_load1 (v := .int .i64 (s.mode : Nat)) ty_one40 rfl (c_s (hck2 _ _).B (by decide) rfl st)) rfl rfl rfl ?_
            -- R17.5 135 := more.go:73 binOp
            refine QL.v (fun w st => by first | exact r_eql rfl rfl (decide_eq_true (by omega)) | exact r_eql rfl rfl (decide_eq_false (by omega)) | exact r_eql rfl rfl rfl) rfl rfl rfl ?_
            -- R17.6 136 := more.go:73 move
            refine QL.v (fun w st => by first | exact r_move (v := .bool _) rfl | exact r_move rfl) rfl rfl rfl ?_
            -- R17.7 137 := more.go:73 fieldAddr
            refine QL.v (fun w st => by exact r_field ty_fld36_0 rfl) rfl rfl rfl ?_
            -- R17.8 138 := more.go:73 fieldAddr
            refine QL.v (fun w st => by exact r_field ty_fld28_3 rfl) rfl rfl rfl ?_
            -- R17.9 139 := more.go:73 load
            refine QL.v (fun w st => by exact r_load1 (v := .int .i64 o.C) ty_one2 rfl (by rw [← f3]; exact st.c1 (by decide))) rfl rfl rfl ?_
            -- R17.10 140 := more.go:73 fieldAddr
            refine QL.v (fun w st => by exact r_field ty_fld36_1 rfl) rfl rfl rfl ?_
            -- R17.11 141 := more.go:73 load
            refine QL.v (fun w st => by exact r_load1 (v := .pointer (some ⟨bB, 0, none⟩)) ty_one29 rfl (by rw [← f5]; exact st.c1 (by decide))) rfl rfl rfl ?_
            -- R17.12 142 := more.go:73 move
            refine QL.v (fun w st => by exact r_move (v := .int .i64 (t : Nat)) (congrArg (Value.int .i64) hT)) rfl rfl rfl ?_
            -- R17.13 143 := more.go:73 move
            refine QL.v (fun w st => by first | exact r_move (v := .int _ _) rfl | exact r_move rfl) rfl rfl rfl ?_
            -- R17.14 144 := more.go:73 nilCheck
            refine QL.v (fun w st => by exact r_nilCheck rfl) rfl rfl rfl ?_
            -- R17.15 145 := more.go:73 fieldAddr
            refine QL.v (fun w st => by exact r_field ty_fld50_5 rfl) rfl rfl rfl ?_
            -- R17.16 146 := more.go:73 indexAddr
            refine QL.v (fun w st => by exact r_indexA (j := t) ty_ar45 rfl rfl rfl ht16) rfl rfl rfl ?_
            -- R17.17 147 := more.go:73 indexAddr
            refine QL.v (fun w st => by exact r_indexA (j := r) ty_ar44 rfl rfl rfl hr20) rfl rfl rfl ?_
            -- R17.18 148 := more.go:73 load
            refine QL.v (fun w st => by exact r_load1 (v := .int .i64 (s.claim t r : Nat)) ty_one3 rfl (c_sC (hck2 _ _).B ht16 hr20 (by omega) st)) rfl rfl rfl ?_
            -- R17.19 149 := more.go:73 fieldAddr
            refine QL.v (fun w st => by exact r_field ty_fld36_1 rfl) rfl rfl rfl ?_
            -- R17.20 150 := more.go:73 load
            refine QL.v (fun w st => by exact r_load1 (v := .pointer (some ⟨bB, 0, none⟩)) ty_one29 rfl (by rw [← f5]; exact st.c1 (by decide))) rfl rfl rfl ?_
            -- R17.21 151 := more.go:73 move
            refine QL.v (fun w st => by exact r_move (v := .int .i64 (t : Nat)) (congrArg (Value.int .i64) hT)) rfl rfl rfl ?_
            -- R17.22 152 := more.go:73 move
            refine QL.v (fun w st => by first | exact r_move (v := .int _ _) rfl | exact r_move rfl) rfl rfl rfl ?_
            -- R17.23 153 := more.go:73 nilCheck
            refine QL.v (fun w st => by exact r_nilCheck rfl) rfl rfl rfl ?_
            -- R17.24 154 := more.go:73 fieldAddr
            refine QL.v (fun w st => by exact r_field ty_fld50_4 rfl) rfl rfl rfl ?_
            -- R17.25 155 := more.go:73 indexAddr
            refine QL.v (fun w st => by exact r_indexA (j := t) ty_ar45 rfl rfl rfl ht16) rfl rfl rfl ?_
            -- R17.26 156 := more.go:73 indexAddr
            refine QL.v (fun w st => by exact r_indexA (j := r) ty_ar44 rfl rfl rfl hr20) rfl rfl rfl ?_
            -- R17.27 157 := more.go:73 load
            refine QL.v (fun w st => by exact r_load1 (v := .int .i64 (s.held t r : Nat)) ty_one3 rfl (c_sH (hck2 _ _).B ht16 hr20 (by omega) st)) rfl rfl rfl ?_
            -- R17.28 158 := more.go:73 binOp
            refine QL.v (fun w st => by exact r_sub (r := (s.claim t r : Int) - s.held t r) rfl rfl (wi64 (by omega) (by omega))) rfl rfl rfl ?_
            -- R17.29 159 := more.go:73 binOp
            refine QL.v (fun w st => by exact r_gtr rfl rfl (decide_eq_true hnc)) rfl rfl rfl ?_
            -- R17.30 160 := more.go:73 pick
            refine QL.v (fun w st => by first | exact r_pickT (v := .bool _) rfl rfl | exact r_pickF (v := .bool _) rfl rfl) rfl rfl rfl ?_
            -- R17.31 7 := more.go:73 assign
            refine QL.v (fun w st => by first | exact r_assign (v := .bool _) rfl | exact r_assign rfl) rfl rfl rfl ?_
            refine QL.wl hKq fun w st => ?_
            refine WL.fin hK1183 (fun _ _ h => h) ?_
            refine WC.seq fun K1184 hK1184 => ?_
            -- region 18
            refine WC.region ?_
            -- R18.0 161 := more.go:74 fieldAddr
            refine WL.v (by exact r_field ty_fld36_3 rfl) rfl rfl rfl ?_
            -- R18.1 162 := more.go:74 fieldAddr
            refine WL.v (by exact r_field ty_fld34_0 rfl) rfl rfl rfl ?_
            -- R18.2 163 := more.go:74 load
            refine WL.v (by exact r_load1 (v := .int .i64 code) ty_one30 rfl (by rw [← f7]; exact st.c1 (by decide))) rfl rfl rfl ?_
            -- R18.3 164 := more.go:74 binOp
            refine WL.v (by first | exact r_neq rfl rfl (decide_eq_true (by omega)) | exact r_neq rfl rfl (decide_eq_false (by omega)) | exact r_neq rfl rfl rfl) rfl rfl rfl ?_
            -- R18.4 165 := more.go:74 move
            refine WL.v (by first | exact r_move (v := .bool _) rfl | exact r_move rfl) rfl rfl rfl ?_
            -- R18.5 166 := more.go:74 fieldAddr
            refine WL.v (by exact r_field ty_fld36_3 rfl) rfl rfl rfl ?_
            -- R18.6 167 := more.go:74 fieldAddr
            refine WL.v (by exact r_field ty_fld34_0 rfl) rfl rfl rfl ?_
            -- R18.7 168 := more.go:74 load
            refine WL.v (by exact r_load1 (v := .int .i64 code) ty_one30 rfl (by rw [← f7]; exact st.c1 (by decide))) rfl rfl rfl ?_
            -- R18.8 169 := more.go:74 binOp
            refine WL.v (by first | exact r_neq rfl rfl (decide_eq_true (by omega)) | exact r_neq rfl rfl (decide_eq_false (by omega)) | exact r_neq rfl rfl rfl) rfl rfl rfl ?_
            -- R18.9 170 := more.go:74 pick
            refine WL.v (by first | exact r_pickT (v := .bool _) rfl rfl | exact r_pickF (v := .bool _) rfl rfl) rfl rfl rfl ?_
            -- R18.10 8 := more.go:74 assign
            refine WL.v (by first | exact r_assign (v := .bool _) rfl | exact r_assign rfl) rfl rfl rfl ?_
            refine WL.fin hK1184 (fun _ _ h => h) ?_
            refine WC.seq fun K1185 hK1185 => ?_
            -- region 19
            refine WC.region ?_
            -- R19.0 171 := more.go:75 move
            refine WL.v (by first | exact r_move (v := .bool _) rfl | exact r_move rfl) rfl rfl rfl ?_
            -- R19.1 172 := more.go:75 move
            refine WL.v (by first | exact r_move (v := .bool _) rfl | exact r_move rfl) rfl rfl rfl ?_
            -- R19.2 173 := more.go:75 move
            refine WL.v (by first | exact r_move (v := .bool _) rfl | exact r_move rfl) rfl rfl rfl ?_
            -- R19.3 174 := more.go:75 fieldAddr
            refine WL.v (by exact r_field ty_fld36_3 rfl) rfl rfl rfl ?_
            -- R19.4 175 := more.go:75 fieldAddr
            refine WL.v (by exact r_field ty_fld34_0 rfl) rfl rfl rfl ?_
            -- R19.5 176 := more.go:75 load
            refine WL.v (by exact r_load1 (v := .int .i64 code) ty_one30 rfl (by rw [← f7]; exact st.c1 (by decide))) rfl rfl rfl ?_
            -- R19.6 177 := more.go:75 binOp
            refine WL.v (by first | exact r_eql rfl rfl (decide_eq_true (by omega)) | exact r_eql rfl rfl (decide_eq_false (by omega)) | exact r_eql rfl rfl rfl) rfl rfl rfl ?_
            -- R19.7 178 := more.go:75 binOp
            refine WL.v (by exact r_bneq ty_bool4 rfl rfl rfl) rfl rfl rfl ?_
            -- R19.8 179 := more.go:75 pick
            refine WL.v (by first | exact r_pickT (v := .bool _) rfl rfl | exact r_pickF (v := .bool _) rfl rfl) rfl rfl rfl ?_
            refine WL.fin hK1185 (fun _ _ h => h) ?_
            refine WC.condF rfl rfl ?_
            refine WC.skipJ hKC (fun _ _ h => h) () (by rw [hcs]; exact st) (by repeat (first | exact sub_nil _ | refine sub_cons rfl rfl ?_))
      · skip
        by_cases h14 : code = 14
        · skip
          rcases (by omega : o.kind = 3 ∨ o.kind = 4 ∨ o.kind = 5) with hk3 | hk4 | hk5
          · skip
            refine WC.seq fun K1186 hK1186 => ?_
            -- region 6
            refine WC.region ?_
            -- R6.0 60 := more.go:62 fieldAddr
            refine WL.v (by exact r_field ty_fld36_0 rfl) rfl rfl rfl ?_
            -- R6.1 61 := more.go:62 fieldAddr
            refine WL.v (by exact r_field ty_fld28_0 rfl) rfl rfl rfl ?_
            -- R6.2 62 := more.go:62 load
            refine WL.v (by exact r_load1 (v := .int .u8 (o.kind : Nat)) ty_one25 rfl (by rw [← f0]; exact st.c1 (by decide))) rfl rfl rfl ?_
            refine WL.fin hK1186 (fun _ _ h => h) ?_
            refine WC.block ?_
            refine WC.seq fun K1187 hK1187 => ?_
            -- region 7
            refine WC.region ?_
            -- R7.0 64 := more.go:63 binOp
            refine WL.v (by first | exact r_eql rfl rfl (decide_eq_true (by omega)) | exact r_eql rfl rfl (decide_eq_false (by omega)) | exact r_eql rfl rfl rfl) rfl rfl rfl ?_
            -- R7.1 63 := more.go:63 assign
            refine WL.v (by first | exact r_assign (v := .bool _) rfl | exact r_assign rfl) rfl rfl rfl ?_
            refine WL.fin hK1187 (fun _ _ h => h) ?_
            refine WC.condF rfl rfl ?_
            refine WC.seq fun K1188 hK1188 => ?_
            refine WC.seq fun K1189 hK1189 => ?_
            -- region 14
            refine WC.region ?_
            -- R14.0 127 := more.go:72 binOp
            refine WL.v (by first | exact r_eql rfl rfl (decide_eq_true (by omega)) | exact r_eql rfl rfl (decide_eq_false (by omega)) | exact r_eql rfl rfl rfl) rfl rfl rfl ?_
            -- R14.1 126 := more.go:72 assign
            refine WL.v (by first | exact r_assign (v := .bool _) rfl | exact r_assign rfl) rfl rfl rfl ?_
            refine WL.fin hK1189 (fun _ _ h => h) ?_
            refine WC.condT rfl rfl ?_
            refine WC.skipF hK1188 (fun _ _ h => h) ?_
            refine WC.condT rfl rfl ?_
            refine WC.seq fun K1190 hK1190 => ?_
            -- region 17 (draws)
            refine WC.quietS st ty_mixed (by kernel_rfl) fun Kq hKq => ?_
            -- R17.0 130 := more.go:73 fieldAddr
            refine QL.v (fun w st => by exact r_field ty_fld36_1 rfl) rfl rfl rfl ?_
            -- R17.1 131 := more.go:73 load
            refine QL.v (fun w st => by exact r_load1 (v := .pointer (some ⟨bB, 0, none⟩)) ty_one29 rfl (by rw [← f5]; exact st.c1 (by decide))) rfl rfl rfl ?_
            -- R17.2 132 := more.go:73 nilCheck
            refine QL.v (fun w st => by exact r_nilCheck rfl) rfl rfl rfl ?_
            -- R17.3 133 := more.go:73 fieldAddr
            refine QL.v (fun w st => by exact r_field ty_fld50_0 rfl) rfl rfl rfl ?_
            -- R17.4 134 := more.go:73 load
            refine QL.v (fun w st => by exact r_load1 (v := .int .i64 (s.mode : Nat)) ty_one40 rfl (c_s (hck2 _ _).B (by decide) rfl st)) rfl rfl rfl ?_
            -- R17.5 135 := more.go:73 binOp
            refine QL.v (fun w st => by first | exact r_eql rfl rfl (decide_eq_true (by omega)) | exact r_eql rfl rfl (decide_eq_false (by omega)) | exact r_eql rfl rfl rfl) rfl rfl rfl ?_
            -- R17.6 136 := more.go:73 move
            refine QL.v (fun w st => by first | exact r_move (v := .bool _) rfl | exact r_move rfl) rfl rfl rfl ?_
            -- R17.7 137 := more.go:73 fieldAddr
            refine QL.no rfl rfl ?_
            -- R17.8 138 := more.go:73 fieldAddr
            refine QL.no rfl rfl ?_
            -- R17.9 139 := more.go:73 load
            refine QL.no rfl rfl ?_
            -- R17.10 140 := more.go:73 fieldAddr
            refine QL.no rfl rfl ?_
            -- R17.11 141 := more.go:73 load
            refine QL.no rfl rfl ?_
            -- R17.12 142 := more.go:73 move
            refine QL.no rfl rfl ?_
            -- R17.13 143 := more.go:73 move
            refine QL.no rfl rfl ?_
            -- R17.14 144 := more.go:73 nilCheck
            refine QL.no rfl rfl ?_
            -- R17.15 145 := more.go:73 fieldAddr
            refine QL.no rfl rfl ?_
            -- R17.16 146 := more.go:73 indexAddr
            refine QL.no rfl rfl ?_
            -- R17.17 147 := more.go:73 indexAddr
            refine QL.no rfl rfl ?_
            -- R17.18 148 := more.go:73 load
            refine QL.no rfl rfl ?_
            -- R17.19 149 := more.go:73 fieldAddr
            refine QL.no rfl rfl ?_
            -- R17.20 150 := more.go:73 load
            refine QL.no rfl rfl ?_
            -- R17.21 151 := more.go:73 move
            refine QL.no rfl rfl ?_
            -- R17.22 152 := more.go:73 move
            refine QL.no rfl rfl ?_
            -- R17.23 153 := more.go:73 nilCheck
            refine QL.no rfl rfl ?_
            -- R17.24 154 := more.go:73 fieldAddr
            refine QL.no rfl rfl ?_
            -- R17.25 155 := more.go:73 indexAddr
            refine QL.no rfl rfl ?_
            -- R17.26 156 := more.go:73 indexAddr
            refine QL.no rfl rfl ?_
            -- R17.27 157 := more.go:73 load
            refine QL.no rfl rfl ?_
            -- R17.28 158 := more.go:73 binOp
            refine QL.no rfl rfl ?_
            -- R17.29 159 := more.go:73 binOp
            refine QL.no rfl rfl ?_
            -- R17.30 160 := more.go:73 pick
            refine QL.v (fun w st => by first | exact r_pickT (v := .bool _) rfl rfl | exact r_pickF (v := .bool _) rfl rfl) rfl rfl rfl ?_
            -- R17.31 7 := more.go:73 assign
            refine QL.v (fun w st => by first | exact r_assign (v := .bool _) rfl | exact r_assign rfl) rfl rfl rfl ?_
            refine QL.wl hKq fun w st => ?_
            refine WL.fin hK1190 (fun _ _ h => h) ?_
            refine WC.seq fun K1191 hK1191 => ?_
            -- region 18
            refine WC.region ?_
            -- R18.0 161 := more.go:74 fieldAddr
            refine WL.v (by exact r_field ty_fld36_3 rfl) rfl rfl rfl ?_
            -- R18.1 162 := more.go:74 fieldAddr
            refine WL.v (by exact r_field ty_fld34_0 rfl) rfl rfl rfl ?_
            -- R18.2 163 := more.go:74 load
            refine WL.v (by exact r_load1 (v := .int .i64 code) ty_one30 rfl (by rw [← f7]; exact st.c1 (by decide))) rfl rfl rfl ?_
            -- R18.3 164 := more.go:74 binOp
            refine WL.v (by first | exact r_neq rfl rfl (decide_eq_true (by omega)) | exact r_neq rfl rfl (decide_eq_false (by omega)) | exact r_neq rfl rfl rfl) rfl rfl rfl ?_
            -- R18.4 165 := more.go:74 move
            refine WL.v (by first | exact r_move (v := .bool _) rfl | exact r_move rfl) rfl rfl rfl ?_
            -- R18.5 166 := more.go:74 fieldAddr
            refine WL.no rfl rfl ?_
            -- R18.6 167 := more.go:74 fieldAddr
            refine WL.no rfl rfl ?_
            -- R18.7 168 := more.go:74 load
            refine WL.no rfl rfl ?_
            -- R18.8 169 := more.go:74 binOp
            refine WL.no rfl rfl ?_
            -- R18.9 170 := more.go:74 pick
            refine WL.v (by first | exact r_pickT (v := .bool _) rfl rfl | exact r_pickF (v := .bool _) rfl rfl) rfl rfl rfl ?_
            -- R18.10 8 := more.go:74 assign
            refine WL.v (by first | exact r_assign (v := .bool _) rfl | exact r_assign rfl) rfl rfl rfl ?_
            refine WL.fin hK1191 (fun _ _ h => h) ?_
            refine WC.seq fun K1192 hK1192 => ?_
            -- region 19
            refine WC.region ?_
            -- R19.0 171 := more.go:75 move
            refine WL.v (by first | exact r_move (v := .bool _) rfl | exact r_move rfl) rfl rfl rfl ?_
            -- R19.1 172 := more.go:75 move
            refine WL.v (by first | exact r_move (v := .bool _) rfl | exact r_move rfl) rfl rfl rfl ?_
            -- R19.2 173 := more.go:75 move
            refine WL.no rfl rfl ?_
            -- R19.3 174 := more.go:75 fieldAddr
            refine WL.no rfl rfl ?_
            -- R19.4 175 := more.go:75 fieldAddr
            refine WL.no rfl rfl ?_
            -- R19.5 176 := more.go:75 load
            refine WL.no rfl rfl ?_
            -- R19.6 177 := more.go:75 binOp
            refine WL.no rfl rfl ?_
            -- R19.7 178 := more.go:75 binOp
            refine WL.no rfl rfl ?_
            -- R19.8 179 := more.go:75 pick
            refine WL.v (by first | exact r_pickT (v := .bool _) rfl rfl | exact r_pickF (v := .bool _) rfl rfl) rfl rfl rfl ?_
            refine WL.fin hK1192 (fun _ _ h => h) ?_
            refine WC.condF rfl rfl ?_
            refine WC.skipJ hKC (fun _ _ h => h) () (by rw [hcs]; exact st) (by repeat (first | exact sub_nil _ | refine sub_cons rfl rfl ?_))
          · skip
            refine WC.seq fun K1193 hK1193 => ?_
            -- region 6
            refine WC.region ?_
            -- R6.0 60 := more.go:62 fieldAddr
            refine WL.v (by exact r_field ty_fld36_0 rfl) rfl rfl rfl ?_
            -- R6.1 61 := more.go:62 fieldAddr
            refine WL.v (by exact r_field ty_fld28_0 rfl) rfl rfl rfl ?_
            -- R6.2 62 := more.go:62 load
            refine WL.v (by exact r_load1 (v := .int .u8 (o.kind : Nat)) ty_one25 rfl (by rw [← f0]; exact st.c1 (by decide))) rfl rfl rfl ?_
            refine WL.fin hK1193 (fun _ _ h => h) ?_
            refine WC.block ?_
            refine WC.seq fun K1194 hK1194 => ?_
            -- region 7
            refine WC.region ?_
            -- R7.0 64 := more.go:63 binOp
            refine WL.v (by first | exact r_eql rfl rfl (decide_eq_true (by omega)) | exact r_eql rfl rfl (decide_eq_false (by omega)) | exact r_eql rfl rfl rfl) rfl rfl rfl ?_
            -- R7.1 63 := more.go:63 assign
            refine WL.v (by first | exact r_assign (v := .bool _) rfl | exact r_assign rfl) rfl rfl rfl ?_
            refine WL.fin hK1194 (fun _ _ h => h) ?_
            refine WC.condF rfl rfl ?_
            refine WC.seq fun K1195 hK1195 => ?_
            refine WC.seq fun K1196 hK1196 => ?_
            -- region 14
            refine WC.region ?_
            -- R14.0 127 := more.go:72 binOp
            refine WL.v (by first | exact r_eql rfl rfl (decide_eq_true (by omega)) | exact r_eql rfl rfl (decide_eq_false (by omega)) | exact r_eql rfl rfl rfl) rfl rfl rfl ?_
            -- R14.1 126 := more.go:72 assign
            refine WL.v (by first | exact r_assign (v := .bool _) rfl | exact r_assign rfl) rfl rfl rfl ?_
            refine WL.fin hK1196 (fun _ _ h => h) ?_
            refine WC.condF rfl rfl ?_
            refine WC.seq fun K1197 hK1197 => ?_
            -- region 15
            refine WC.region ?_
            -- R15.0 128 := more.go:72 binOp
            refine WL.v (by first | exact r_eql rfl rfl (decide_eq_true (by omega)) | exact r_eql rfl rfl (decide_eq_false (by omega)) | exact r_eql rfl rfl rfl) rfl rfl rfl ?_
            -- R15.1 126 := more.go:72 assign
            refine WL.v (by first | exact r_assign (v := .bool _) rfl | exact r_assign rfl) rfl rfl rfl ?_
            refine WL.fin hK1197 (fun _ _ h => h) ?_
            refine WC.condT rfl rfl ?_
            refine WC.skipF hK1195 (fun _ _ h => h) ?_
            refine WC.condT rfl rfl ?_
            refine WC.seq fun K1198 hK1198 => ?_
            -- region 17 (draws)
            refine WC.quietS st ty_mixed (by kernel_rfl) fun Kq hKq => ?_
            -- R17.0 130 := more.go:73 fieldAddr
            refine QL.v (fun w st => by exact r_field ty_fld36_1 rfl) rfl rfl rfl ?_
            -- R17.1 131 := more.go:73 load
            refine QL.v (fun w st => by exact r_load1 (v := .pointer (some ⟨bB, 0, none⟩)) ty_one29 rfl (by rw [← f5]; exact st.c1 (by decide))) rfl rfl rfl ?_
            -- R17.2 132 := more.go:73 nilCheck
            refine QL.v (fun w st => by exact r_nilCheck rfl) rfl rfl rfl ?_
            -- R17.3 133 := more.go:73 fieldAddr
            refine QL.v (fun w st => by exact r_field ty_fld50_0 rfl) rfl rfl rfl ?_
            -- R17.4 134 := more.go:73 load
            refine QL.v (fun w st => by exact r_load1 (v := .int .i64 (s.mode : Nat)) ty_one40 rfl (c_s (hck2 _ _).B (by decide) rfl st)) rfl rfl rfl ?_
            -- R17.5 135 := more.go:73 binOp
            refine QL.v (fun w st => by first | exact r_eql rfl rfl (decide_eq_true (by omega)) | exact r_eql rfl rfl (decide_eq_false (by omega)) | exact r_eql rfl rfl rfl) rfl rfl rfl ?_
            -- R17.6 136 := more.go:73 move
            refine QL.v (fun w st => by first | exact r_move (v := .bool _) rfl | exact r_move rfl) rfl rfl rfl ?_
            -- R17.7 137 := more.go:73 fieldAddr
            refine QL.no rfl rfl ?_
            -- R17.8 138 := more.go:73 fieldAddr
            refine QL.no rfl rfl ?_
            -- R17.9 139 := more.go:73 load
            refine QL.no rfl rfl ?_
            -- R17.10 140 := more.go:73 fieldAddr
            refine QL.no rfl rfl ?_
            -- R17.11 141 := more.go:73 load
            refine QL.no rfl rfl ?_
            -- R17.12 142 := more.go:73 move
            refine QL.no rfl rfl ?_
            -- R17.13 143 := more.go:73 move
            refine QL.no rfl rfl ?_
            -- R17.14 144 := more.go:73 nilCheck
            refine QL.no rfl rfl ?_
            -- R17.15 145 := more.go:73 fieldAddr
            refine QL.no rfl rfl ?_
            -- R17.16 146 := more.go:73 indexAddr
            refine QL.no rfl rfl ?_
            -- R17.17 147 := more.go:73 indexAddr
            refine QL.no rfl rfl ?_
            -- R17.18 148 := more.go:73 load
            refine QL.no rfl rfl ?_
            -- R17.19 149 := more.go:73 fieldAddr
            refine QL.no rfl rfl ?_
            -- R17.20 150 := more.go:73 load
            refine QL.no rfl rfl ?_
            -- R17.21 151 := more.go:73 move
            refine QL.no rfl rfl ?_
            -- R17.22 152 := more.go:73 move
            refine QL.no rfl rfl ?_
            -- R17.23 153 := more.go:73 nilCheck
            refine QL.no rfl rfl ?_
            -- R17.24 154 := more.go:73 fieldAddr
            refine QL.no rfl rfl ?_
            -- R17.25 155 := more.go:73 indexAddr
            refine QL.no rfl rfl ?_
            -- R17.26 156 := more.go:73 indexAddr
            refine QL.no rfl rfl ?_
            -- R17.27 157 := more.go:73 load
            refine QL.no rfl rfl ?_
            -- R17.28 158 := more.go:73 binOp
            refine QL.no rfl rfl ?_
            -- R17.29 159 := more.go:73 binOp
            refine QL.no rfl rfl ?_
            -- R17.30 160 := more.go:73 pick
            refine QL.v (fun w st => by first | exact r_pickT (v := .bool _) rfl rfl | exact r_pickF (v := .bool _) rfl rfl) rfl rfl rfl ?_
            -- R17.31 7 := more.go:73 assign
            refine QL.v (fun w st => by first | exact r_assign (v := .bool _) rfl | exact r_assign rfl) rfl rfl rfl ?_
            refine QL.wl hKq fun w st => ?_
            refine WL.fin hK1198 (fun _ _ h => h) ?_
            refine WC.seq fun K1199 hK1199 => ?_
            -- region 18
            refine WC.region ?_
            -- R18.0 161 := more.go:74 fieldAddr
            refine WL.v (by exact r_field ty_fld36_3 rfl) rfl rfl rfl ?_
            -- R18.1 162 := more.go:74 fieldAddr
            refine WL.v (by exact r_field ty_fld34_0 rfl) rfl rfl rfl ?_
            -- R18.2 163 := more.go:74 load
            refine WL.v (by exact r_load1 (v := .int .i64 code) ty_one30 rfl (by rw [← f7]; exact st.c1 (by decide))) rfl rfl rfl ?_
            -- R18.3 164 := more.go:74 binOp
            refine WL.v (by first | exact r_neq rfl rfl (decide_eq_true (by omega)) | exact r_neq rfl rfl (decide_eq_false (by omega)) | exact r_neq rfl rfl rfl) rfl rfl rfl ?_
            -- R18.4 165 := more.go:74 move
            refine WL.v (by first | exact r_move (v := .bool _) rfl | exact r_move rfl) rfl rfl rfl ?_
            -- R18.5 166 := more.go:74 fieldAddr
            refine WL.no rfl rfl ?_
            -- R18.6 167 := more.go:74 fieldAddr
            refine WL.no rfl rfl ?_
            -- R18.7 168 := more.go:74 load
            refine WL.no rfl rfl ?_
            -- R18.8 169 := more.go:74 binOp
            refine WL.no rfl rfl ?_
            -- R18.9 170 := more.go:74 pick
            refine WL.v (by first | exact r_pickT (v := .bool _) rfl rfl | exact r_pickF (v := .bool _) rfl rfl) rfl rfl rfl ?_
            -- R18.10 8 := more.go:74 assign
            refine WL.v (by first | exact r_assign (v := .bool _) rfl | exact r_assign rfl) rfl rfl rfl ?_
            refine WL.fin hK1199 (fun _ _ h => h) ?_
            refine WC.seq fun K1200 hK1200 => ?_
            -- region 19
            refine WC.region ?_
            -- R19.0 171 := more.go:75 move
            refine WL.v (by first | exact r_move (v := .bool _) rfl | exact r_move rfl) rfl rfl rfl ?_
            -- R19.1 172 := more.go:75 move
            refine WL.v (by first | exact r_move (v := .bool _) rfl | exact r_move rfl) rfl rfl rfl ?_
            -- R19.2 173 := more.go:75 move
            refine WL.no rfl rfl ?_
            -- R19.3 174 := more.go:75 fieldAddr
            refine WL.no rfl rfl ?_
            -- R19.4 175 := more.go:75 fieldAddr
            refine WL.no rfl rfl ?_
            -- R19.5 176 := more.go:75 load
            refine WL.no rfl rfl ?_
            -- R19.6 177 := more.go:75 binOp
            refine WL.no rfl rfl ?_
            -- R19.7 178 := more.go:75 binOp
            refine WL.no rfl rfl ?_
            -- R19.8 179 := more.go:75 pick
            refine WL.v (by first | exact r_pickT (v := .bool _) rfl rfl | exact r_pickF (v := .bool _) rfl rfl) rfl rfl rfl ?_
            refine WL.fin hK1200 (fun _ _ h => h) ?_
            refine WC.condF rfl rfl ?_
            refine WC.skipJ hKC (fun _ _ h => h) () (by rw [hcs]; exact st) (by repeat (first | exact sub_nil _ | refine sub_cons rfl rfl ?_))
          · skip
            refine WC.seq fun K1201 hK1201 => ?_
            -- region 6
            refine WC.region ?_
            -- R6.0 60 := more.go:62 fieldAddr
            refine WL.v (by exact r_field ty_fld36_0 rfl) rfl rfl rfl ?_
            -- R6.1 61 := more.go:62 fieldAddr
            refine WL.v (by exact r_field ty_fld28_0 rfl) rfl rfl rfl ?_
            -- R6.2 62 := more.go:62 load
            refine WL.v (by exact r_load1 (v := .int .u8 (o.kind : Nat)) ty_one25 rfl (by rw [← f0]; exact st.c1 (by decide))) rfl rfl rfl ?_
            refine WL.fin hK1201 (fun _ _ h => h) ?_
            refine WC.block ?_
            refine WC.seq fun K1202 hK1202 => ?_
            -- region 7
            refine WC.region ?_
            -- R7.0 64 := more.go:63 binOp
            refine WL.v (by first | exact r_eql rfl rfl (decide_eq_true (by omega)) | exact r_eql rfl rfl (decide_eq_false (by omega)) | exact r_eql rfl rfl rfl) rfl rfl rfl ?_
            -- R7.1 63 := more.go:63 assign
            refine WL.v (by first | exact r_assign (v := .bool _) rfl | exact r_assign rfl) rfl rfl rfl ?_
            refine WL.fin hK1202 (fun _ _ h => h) ?_
            refine WC.condF rfl rfl ?_
            refine WC.seq fun K1203 hK1203 => ?_
            refine WC.seq fun K1204 hK1204 => ?_
            -- region 14
            refine WC.region ?_
            -- R14.0 127 := more.go:72 binOp
            refine WL.v (by first | exact r_eql rfl rfl (decide_eq_true (by omega)) | exact r_eql rfl rfl (decide_eq_false (by omega)) | exact r_eql rfl rfl rfl) rfl rfl rfl ?_
            -- R14.1 126 := more.go:72 assign
            refine WL.v (by first | exact r_assign (v := .bool _) rfl | exact r_assign rfl) rfl rfl rfl ?_
            refine WL.fin hK1204 (fun _ _ h => h) ?_
            refine WC.condF rfl rfl ?_
            refine WC.seq fun K1205 hK1205 => ?_
            -- region 15
            refine WC.region ?_
            -- R15.0 128 := more.go:72 binOp
            refine WL.v (by first | exact r_eql rfl rfl (decide_eq_true (by omega)) | exact r_eql rfl rfl (decide_eq_false (by omega)) | exact r_eql rfl rfl rfl) rfl rfl rfl ?_
            -- R15.1 126 := more.go:72 assign
            refine WL.v (by first | exact r_assign (v := .bool _) rfl | exact r_assign rfl) rfl rfl rfl ?_
            refine WL.fin hK1205 (fun _ _ h => h) ?_
            refine WC.condF rfl rfl ?_
            -- region 16
            refine WC.region ?_
            -- R16.0 129 := more.go:72 binOp
            refine WL.v (by first | exact r_eql rfl rfl (decide_eq_true (by omega)) | exact r_eql rfl rfl (decide_eq_false (by omega)) | exact r_eql rfl rfl rfl) rfl rfl rfl ?_
            -- R16.1 126 := more.go:72 assign
            refine WL.v (by first | exact r_assign (v := .bool _) rfl | exact r_assign rfl) rfl rfl rfl ?_
            refine WL.fin hK1203 (fun _ _ h => h) ?_
            refine WC.condT rfl rfl ?_
            refine WC.seq fun K1206 hK1206 => ?_
            -- region 17 (draws)
            refine WC.quietS st ty_mixed (by kernel_rfl) fun Kq hKq => ?_
            -- R17.0 130 := more.go:73 fieldAddr
            refine QL.v (fun w st => by exact r_field ty_fld36_1 rfl) rfl rfl rfl ?_
            -- R17.1 131 := more.go:73 load
            refine QL.v (fun w st => by exact r_load1 (v := .pointer (some ⟨bB, 0, none⟩)) ty_one29 rfl (by rw [← f5]; exact st.c1 (by decide))) rfl rfl rfl ?_
            -- R17.2 132 := more.go:73 nilCheck
            refine QL.v (fun w st => by exact r_nilCheck rfl) rfl rfl rfl ?_
            -- R17.3 133 := more.go:73 fieldAddr
            refine QL.v (fun w st => by exact r_field ty_fld50_0 rfl) rfl rfl rfl ?_
            -- R17.4 134 := more.go:73 load
            refine QL.v (fun w st => by exact r_load1 (v := .int .i64 (s.mode : Nat)) ty_one40 rfl (c_s (hck2 _ _).B (by decide) rfl st)) rfl rfl rfl ?_
            -- R17.5 135 := more.go:73 binOp
            refine QL.v (fun w st => by first | exact r_eql rfl rfl (decide_eq_true (by omega)) | exact r_eql rfl rfl (decide_eq_false (by omega)) | exact r_eql rfl rfl rfl) rfl rfl rfl ?_
            -- R17.6 136 := more.go:73 move
            refine QL.v (fun w st => by first | exact r_move (v := .bool _) rfl | exact r_move rfl) rfl rfl rfl ?_
            -- R17.7 137 := more.go:73 fieldAddr
            refine QL.no rfl rfl ?_
            -- R17.8 138 := more.go:73 fieldAddr
            refine QL.no rfl rfl ?_
            -- R17.9 139 := more.go:73 load
            refine QL.no rfl rfl ?_
            -- R17.10 140 := more.go:73 fieldAddr
            refine QL.no rfl rfl ?_
            -- R17.11 141 := more.go:73 load
            refine QL.no rfl rfl ?_
            -- R17.12 142 := more.go:73 move
            refine QL.no rfl rfl ?_
            -- R17.13 143 := more.go:73 move
            refine QL.no rfl rfl ?_
            -- R17.14 144 := more.go:73 nilCheck
            refine QL.no rfl rfl ?_
            -- R17.15 145 := more.go:73 fieldAddr
            refine QL.no rfl rfl ?_
            -- R17.16 146 := more.go:73 indexAddr
            refine QL.no rfl rfl ?_
            -- R17.17 147 := more.go:73 indexAddr
            refine QL.no rfl rfl ?_
            -- R17.18 148 := more.go:73 load
            refine QL.no rfl rfl ?_
            -- R17.19 149 := more.go:73 fieldAddr
            refine QL.no rfl rfl ?_
            -- R17.20 150 := more.go:73 load
            refine QL.no rfl rfl ?_
            -- R17.21 151 := more.go:73 move
            refine QL.no rfl rfl ?_
            -- R17.22 152 := more.go:73 move
            refine QL.no rfl rfl ?_
            -- R17.23 153 := more.go:73 nilCheck
            refine QL.no rfl rfl ?_
            -- R17.24 154 := more.go:73 fieldAddr
            refine QL.no rfl rfl ?_
            -- R17.25 155 := more.go:73 indexAddr
            refine QL.no rfl rfl ?_
            -- R17.26 156 := more.go:73 indexAddr
            refine QL.no rfl rfl ?_
            -- R17.27 157 := more.go:73 load
            refine QL.no rfl rfl ?_
            -- R17.28 158 := more.go:73 binOp
            refine QL.no rfl rfl ?_
            -- R17.29 159 := more.go:73 binOp
            refine QL.no rfl rfl ?_
            -- R17.30 160 := more.go:73 pick
            refine QL.v (fun w st => by first | exact r_pickT (v := .bool _) rfl rfl | exact r_pickF (v := .bool _) rfl rfl) rfl rfl rfl ?_
            -- R17.31 7 := more.go:73 assign
            refine QL.v (fun w st => by first | exact r_assign (v := .bool _) rfl | exact r_assign rfl) rfl rfl rfl ?_
            refine QL.wl hKq fun w st => ?_
            refine WL.fin hK1206 (fun _ _ h => h) ?_
            refine WC.seq fun K1207 hK1207 => ?_
            -- region 18
            refine WC.region ?_
            -- R18.0 161 := more.go:74 fieldAddr
            refine WL.v (by exact r_field ty_fld36_3 rfl) rfl rfl rfl ?_
            -- R18.1 162 := more.go:74 fieldAddr
            refine WL.v (by exact r_field ty_fld34_0 rfl) rfl rfl rfl ?_
            -- R18.2 163 := more.go:74 load
            refine WL.v (by exact r_load1 (v := .int .i64 code) ty_one30 rfl (by rw [← f7]; exact st.c1 (by decide))) rfl rfl rfl ?_
            -- R18.3 164 := more.go:74 binOp
            refine WL.v (by first | exact r_neq rfl rfl (decide_eq_true (by omega)) | exact r_neq rfl rfl (decide_eq_false (by omega)) | exact r_neq rfl rfl rfl) rfl rfl rfl ?_
            -- R18.4 165 := more.go:74 move
            refine WL.v (by first | exact r_move (v := .bool _) rfl | exact r_move rfl) rfl rfl rfl ?_
            -- R18.5 166 := more.go:74 fieldAddr
            refine WL.no rfl rfl ?_
            -- R18.6 167 := more.go:74 fieldAddr
            refine WL.no rfl rfl ?_
            -- R18.7 168 := more.go:74 load
            refine WL.no rfl rfl ?_
            -- R18.8 169 := more.go:74 binOp
            refine WL.no rfl rfl ?_
            -- R18.9 170 := more.go:74 pick
            refine WL.v (by first | exact r_pickT (v := .bool _) rfl rfl | exact r_pickF (v := .bool _) rfl rfl) rfl rfl rfl ?_
            -- R18.10 8 := more.go:74 assign
            refine WL.v (by first | exact r_assign (v := .bool _) rfl | exact r_assign rfl) rfl rfl rfl ?_
            refine WL.fin hK1207 (fun _ _ h => h) ?_
            refine WC.seq fun K1208 hK1208 => ?_
            -- region 19
            refine WC.region ?_
            -- R19.0 171 := more.go:75 move
            refine WL.v (by first | exact r_move (v := .bool _) rfl | exact r_move rfl) rfl rfl rfl ?_
            -- R19.1 172 := more.go:75 move
            refine WL.v (by first | exact r_move (v := .bool _) rfl | exact r_move rfl) rfl rfl rfl ?_
            -- R19.2 173 := more.go:75 move
            refine WL.no rfl rfl ?_
            -- R19.3 174 := more.go:75 fieldAddr
            refine WL.no rfl rfl ?_
            -- R19.4 175 := more.go:75 fieldAddr
            refine WL.no rfl rfl ?_
            -- R19.5 176 := more.go:75 load
            refine WL.no rfl rfl ?_
            -- R19.6 177 := more.go:75 binOp
            refine WL.no rfl rfl ?_
            -- R19.7 178 := more.go:75 binOp
            refine WL.no rfl rfl ?_
            -- R19.8 179 := more.go:75 pick
            refine WL.v (by first | exact r_pickT (v := .bool _) rfl rfl | exact r_pickF (v := .bool _) rfl rfl) rfl rfl rfl ?_
            refine WL.fin hK1208 (fun _ _ h => h) ?_
            refine WC.condF rfl rfl ?_
            refine WC.skipJ hKC (fun _ _ h => h) () (by rw [hcs]; exact st) (by repeat (first | exact sub_nil _ | refine sub_cons rfl rfl ?_))
        by_cases h15 : code = 15
        · skip
          rcases (by omega : o.kind = 3 ∨ o.kind = 4 ∨ o.kind = 5) with hk3 | hk4 | hk5
          · skip
            refine WC.seq fun K1209 hK1209 => ?_
            -- region 6
            refine WC.region ?_
            -- R6.0 60 := more.go:62 fieldAddr
            refine WL.v (by exact r_field ty_fld36_0 rfl) rfl rfl rfl ?_
            -- R6.1 61 := more.go:62 fieldAddr
            refine WL.v (by exact r_field ty_fld28_0 rfl) rfl rfl rfl ?_
            -- R6.2 62 := more.go:62 load
            refine WL.v (by exact r_load1 (v := .int .u8 (o.kind : Nat)) ty_one25 rfl (by rw [← f0]; exact st.c1 (by decide))) rfl rfl rfl ?_
            refine WL.fin hK1209 (fun _ _ h => h) ?_
            refine WC.block ?_
            refine WC.seq fun K1210 hK1210 => ?_
            -- region 7
            refine WC.region ?_
            -- R7.0 64 := more.go:63 binOp
            refine WL.v (by first | exact r_eql rfl rfl (decide_eq_true (by omega)) | exact r_eql rfl rfl (decide_eq_false (by omega)) | exact r_eql rfl rfl rfl) rfl rfl rfl ?_
            -- R7.1 63 := more.go:63 assign
            refine WL.v (by first | exact r_assign (v := .bool _) rfl | exact r_assign rfl) rfl rfl rfl ?_
            refine WL.fin hK1210 (fun _ _ h => h) ?_
            refine WC.condF rfl rfl ?_
            refine WC.seq fun K1211 hK1211 => ?_
            refine WC.seq fun K1212 hK1212 => ?_
            -- region 14
            refine WC.region ?_
            -- R14.0 127 := more.go:72 binOp
            refine WL.v (by first | exact r_eql rfl rfl (decide_eq_true (by omega)) | exact r_eql rfl rfl (decide_eq_false (by omega)) | exact r_eql rfl rfl rfl) rfl rfl rfl ?_
            -- R14.1 126 := more.go:72 assign
            refine WL.v (by first | exact r_assign (v := .bool _) rfl | exact r_assign rfl) rfl rfl rfl ?_
            refine WL.fin hK1212 (fun _ _ h => h) ?_
            refine WC.condT rfl rfl ?_
            refine WC.skipF hK1211 (fun _ _ h => h) ?_
            refine WC.condT rfl rfl ?_
            refine WC.seq fun K1213 hK1213 => ?_
            -- region 17 (draws)
            refine WC.quietS st ty_mixed (by kernel_rfl) fun Kq hKq => ?_
            -- R17.0 130 := more.go:73 fieldAddr
            refine QL.v (fun w st => by exact r_field ty_fld36_1 rfl) rfl rfl rfl ?_
            -- R17.1 131 := more.go:73 load
            refine QL.v (fun w st => by exact r_load1 (v := .pointer (some ⟨bB, 0, none⟩)) ty_one29 rfl (by rw [← f5]; exact st.c1 (by decide))) rfl rfl rfl ?_
            -- R17.2 132 := more.go:73 nilCheck
            refine QL.v (fun w st => by exact r_nilCheck rfl) rfl rfl rfl ?_
            -- R17.3 133 := more.go:73 fieldAddr
            refine QL.v (fun w st => by exact r_field ty_fld50_0 rfl) rfl rfl rfl ?_
            -- R17.4 134 := more.go:73 load
            refine QL.v (fun w st => by exact r_load1 (v := .int .i64 (s.mode : Nat)) ty_one40 rfl (c_s (hck2 _ _).B (by decide) rfl st)) rfl rfl rfl ?_
            -- R17.5 135 := more.go:73 binOp
            refine QL.v (fun w st => by first | exact r_eql rfl rfl (decide_eq_true (by omega)) | exact r_eql rfl rfl (decide_eq_false (by omega)) | exact r_eql rfl rfl rfl) rfl rfl rfl ?_
            -- R17.6 136 := more.go:73 move
            refine QL.v (fun w st => by first | exact r_move (v := .bool _) rfl | exact r_move rfl) rfl rfl rfl ?_
            -- R17.7 137 := more.go:73 fieldAddr
            refine QL.no rfl rfl ?_
            -- R17.8 138 := more.go:73 fieldAddr
            refine QL.no rfl rfl ?_
            -- R17.9 139 := more.go:73 load
            refine QL.no rfl rfl ?_
            -- R17.10 140 := more.go:73 fieldAddr
            refine QL.no rfl rfl ?_
            -- R17.11 141 := more.go:73 load
            refine QL.no rfl rfl ?_
            -- R17.12 142 := more.go:73 move
            refine QL.no rfl rfl ?_
            -- R17.13 143 := more.go:73 move
            refine QL.no rfl rfl ?_
            -- R17.14 144 := more.go:73 nilCheck
            refine QL.no rfl rfl ?_
            -- R17.15 145 := more.go:73 fieldAddr
            refine QL.no rfl rfl ?_
            -- R17.16 146 := more.go:73 indexAddr
            refine QL.no rfl rfl ?_
            -- R17.17 147 := more.go:73 indexAddr
            refine QL.no rfl rfl ?_
            -- R17.18 148 := more.go:73 load
            refine QL.no rfl rfl ?_
            -- R17.19 149 := more.go:73 fieldAddr
            refine QL.no rfl rfl ?_
            -- R17.20 150 := more.go:73 load
            refine QL.no rfl rfl ?_
            -- R17.21 151 := more.go:73 move
            refine QL.no rfl rfl ?_
            -- R17.22 152 := more.go:73 move
            refine QL.no rfl rfl ?_
            -- R17.23 153 := more.go:73 nilCheck
            refine QL.no rfl rfl ?_
            -- R17.24 154 := more.go:73 fieldAddr
            refine QL.no rfl rfl ?_
            -- R17.25 155 := more.go:73 indexAddr
            refine QL.no rfl rfl ?_
            -- R17.26 156 := more.go:73 indexAddr
            refine QL.no rfl rfl ?_
            -- R17.27 157 := more.go:73 load
            refine QL.no rfl rfl ?_
            -- R17.28 158 := more.go:73 binOp
            refine QL.no rfl rfl ?_
            -- R17.29 159 := more.go:73 binOp
            refine QL.no rfl rfl ?_
            -- R17.30 160 := more.go:73 pick
            refine QL.v (fun w st => by first | exact r_pickT (v := .bool _) rfl rfl | exact r_pickF (v := .bool _) rfl rfl) rfl rfl rfl ?_
            -- R17.31 7 := more.go:73 assign
            refine QL.v (fun w st => by first | exact r_assign (v := .bool _) rfl | exact r_assign rfl) rfl rfl rfl ?_
            refine QL.wl hKq fun w st => ?_
            refine WL.fin hK1213 (fun _ _ h => h) ?_
            refine WC.seq fun K1214 hK1214 => ?_
            -- region 18
            refine WC.region ?_
            -- R18.0 161 := more.go:74 fieldAddr
            refine WL.v (by exact r_field ty_fld36_3 rfl) rfl rfl rfl ?_
            -- R18.1 162 := more.go:74 fieldAddr
            refine WL.v (by exact r_field ty_fld34_0 rfl) rfl rfl rfl ?_
            -- R18.2 163 := more.go:74 load
            refine WL.v (by exact r_load1 (v := .int .i64 code) ty_one30 rfl (by rw [← f7]; exact st.c1 (by decide))) rfl rfl rfl ?_
            -- R18.3 164 := more.go:74 binOp
            refine WL.v (by first | exact r_neq rfl rfl (decide_eq_true (by omega)) | exact r_neq rfl rfl (decide_eq_false (by omega)) | exact r_neq rfl rfl rfl) rfl rfl rfl ?_
            -- R18.4 165 := more.go:74 move
            refine WL.v (by first | exact r_move (v := .bool _) rfl | exact r_move rfl) rfl rfl rfl ?_
            -- R18.5 166 := more.go:74 fieldAddr
            refine WL.v (by exact r_field ty_fld36_3 rfl) rfl rfl rfl ?_
            -- R18.6 167 := more.go:74 fieldAddr
            refine WL.v (by exact r_field ty_fld34_0 rfl) rfl rfl rfl ?_
            -- R18.7 168 := more.go:74 load
            refine WL.v (by exact r_load1 (v := .int .i64 code) ty_one30 rfl (by rw [← f7]; exact st.c1 (by decide))) rfl rfl rfl ?_
            -- R18.8 169 := more.go:74 binOp
            refine WL.v (by first | exact r_neq rfl rfl (decide_eq_true (by omega)) | exact r_neq rfl rfl (decide_eq_false (by omega)) | exact r_neq rfl rfl rfl) rfl rfl rfl ?_
            -- R18.9 170 := more.go:74 pick
            refine WL.v (by first | exact r_pickT (v := .bool _) rfl rfl | exact r_pickF (v := .bool _) rfl rfl) rfl rfl rfl ?_
            -- R18.10 8 := more.go:74 assign
            refine WL.v (by first | exact r_assign (v := .bool _) rfl | exact r_assign rfl) rfl rfl rfl ?_
            refine WL.fin hK1214 (fun _ _ h => h) ?_
            refine WC.seq fun K1215 hK1215 => ?_
            -- region 19
            refine WC.region ?_
            -- R19.0 171 := more.go:75 move
            refine WL.v (by first | exact r_move (v := .bool _) rfl | exact r_move rfl) rfl rfl rfl ?_
            -- R19.1 172 := more.go:75 move
            refine WL.v (by first | exact r_move (v := .bool _) rfl | exact r_move rfl) rfl rfl rfl ?_
            -- R19.2 173 := more.go:75 move
            refine WL.no rfl rfl ?_
            -- R19.3 174 := more.go:75 fieldAddr
            refine WL.no rfl rfl ?_
            -- R19.4 175 := more.go:75 fieldAddr
            refine WL.no rfl rfl ?_
            -- R19.5 176 := more.go:75 load
            refine WL.no rfl rfl ?_
            -- R19.6 177 := more.go:75 binOp
            refine WL.no rfl rfl ?_
            -- R19.7 178 := more.go:75 binOp
            refine WL.no rfl rfl ?_
            -- R19.8 179 := more.go:75 pick
            refine WL.v (by first | exact r_pickT (v := .bool _) rfl rfl | exact r_pickF (v := .bool _) rfl rfl) rfl rfl rfl ?_
            refine WL.fin hK1215 (fun _ _ h => h) ?_
            refine WC.condF rfl rfl ?_
            refine WC.skipJ hKC (fun _ _ h => h) () (by rw [hcs]; exact st) (by repeat (first | exact sub_nil _ | refine sub_cons rfl rfl ?_))
          · skip
            refine WC.seq fun K1216 hK1216 => ?_
            -- region 6
            refine WC.region ?_
            -- R6.0 60 := more.go:62 fieldAddr
            refine WL.v (by exact r_field ty_fld36_0 rfl) rfl rfl rfl ?_
            -- R6.1 61 := more.go:62 fieldAddr
            refine WL.v (by exact r_field ty_fld28_0 rfl) rfl rfl rfl ?_
            -- R6.2 62 := more.go:62 load
            refine WL.v (by exact r_load1 (v := .int .u8 (o.kind : Nat)) ty_one25 rfl (by rw [← f0]; exact st.c1 (by decide))) rfl rfl rfl ?_
            refine WL.fin hK1216 (fun _ _ h => h) ?_
            refine WC.block ?_
            refine WC.seq fun K1217 hK1217 => ?_
            -- region 7
            refine WC.region ?_
            -- R7.0 64 := more.go:63 binOp
            refine WL.v (by first | exact r_eql rfl rfl (decide_eq_true (by omega)) | exact r_eql rfl rfl (decide_eq_false (by omega)) | exact r_eql rfl rfl rfl) rfl rfl rfl ?_
            -- R7.1 63 := more.go:63 assign
            refine WL.v (by first | exact r_assign (v := .bool _) rfl | exact r_assign rfl) rfl rfl rfl ?_
            refine WL.fin hK1217 (fun _ _ h => h) ?_
            refine WC.condF rfl rfl ?_
            refine WC.seq fun K1218 hK1218 => ?_
            refine WC.seq fun K1219 hK1219 => ?_
            -- region 14
            refine WC.region ?_
            -- R14.0 127 := more.go:72 binOp
            refine WL.v (by first | exact r_eql rfl rfl (decide_eq_true (by omega)) | exact r_eql rfl rfl (decide_eq_false (by omega)) | exact r_eql rfl rfl rfl) rfl rfl rfl ?_
            -- R14.1 126 := more.go:72 assign
            refine WL.v (by first | exact r_assign (v := .bool _) rfl | exact r_assign rfl) rfl rfl rfl ?_
            refine WL.fin hK1219 (fun _ _ h => h) ?_
            refine WC.condF rfl rfl ?_
            refine WC.seq fun K1220 hK1220 => ?_
            -- region 15
            refine WC.region ?_
            -- R15.0 128 := more.go:72 binOp
            refine WL.v (by first | exact r_eql rfl rfl (decide_eq_true (by omega)) | exact r_eql rfl rfl (decide_eq_false (by omega)) | exact r_eql rfl rfl rfl) rfl rfl rfl ?_
            -- R15.1 126 := more.go:72 assign
            refine WL.v (by first | exact r_assign (v := .bool _) rfl | exact r_assign rfl) rfl rfl rfl ?_
            refine WL.fin hK1220 (fun _ _ h => h) ?_
            refine WC.condT rfl rfl ?_
            refine WC.skipF hK1218 (fun _ _ h => h) ?_
            refine WC.condT rfl rfl ?_
            refine WC.seq fun K1221 hK1221 => ?_
            -- region 17 (draws)
            refine WC.quietS st ty_mixed (by kernel_rfl) fun Kq hKq => ?_
            -- R17.0 130 := more.go:73 fieldAddr
            refine QL.v (fun w st => by exact r_field ty_fld36_1 rfl) rfl rfl rfl ?_
            -- R17.1 131 := more.go:73 load
            refine QL.v (fun w st => by exact r_load1 (v := .pointer (some ⟨bB, 0, none⟩)) ty_one29 rfl (by rw [← f5]; exact st.c1 (by decide))) rfl rfl rfl ?_
            -- R17.2 132 := more.go:73 nilCheck
            refine QL.v (fun w st => by exact r_nilCheck rfl) rfl rfl rfl ?_
            -- R17.3 133 := more.go:73 fieldAddr
            refine QL.v (fun w st => by exact r_field ty_fld50_0 rfl) rfl rfl rfl ?_
            -- R17.4 134 := more.go:73 load
            refine QL.v (fun w st => by exact r_load1 (v := .int .i64 (s.mode : Nat)) ty_one40 rfl (c_s (hck2 _ _).B (by decide) rfl st)) rfl rfl rfl ?_
            -- R17.5 135 := more.go:73 binOp
            refine QL.v (fun w st => by first | exact r_eql rfl rfl (decide_eq_true (by omega)) | exact r_eql rfl rfl (decide_eq_false (by omega)) | exact r_eql rfl rfl rfl) rfl rfl rfl ?_
            -- R17.6 136 := more.go:73 move
            refine QL.v (fun w st => by first | exact r_move (v := .bool _) rfl | exact r_move rfl) rfl rfl rfl ?_
            -- R17.7 137 := more.go:73 fieldAddr
            refine QL.no rfl rfl ?_
            -- R17.8 138 := more.go:73 fieldAddr
            refine QL.no rfl rfl ?_
            -- R17.9 139 := more.go:73 load
            refine QL.no rfl rfl ?_
            -- R17.10 140 := more.go:73 fieldAddr
            refine QL.no rfl rfl ?_
            -- R17.11 141 := more.go:73 load
            refine QL.no rfl rfl ?_
            -- R17.12 142 := more.go:73 move
            refine QL.no rfl rfl ?_
            -- R17.13 143 := more.go:73 move
            refine QL.no rfl rfl ?_
            -- R17.14 144 := more.go:73 nilCheck
            refine QL.no rfl rfl ?_
            -- R17.15 145 := more.go:73 fieldAddr
            refine QL.no rfl rfl ?_
            -- R17.16 146 := more.go:73 indexAddr
            refine QL.no rfl rfl ?_
            -- R17.17 147 := more.go:73 indexAddr
            refine QL.no rfl rfl ?_
            -- R17.18 148 := more.go:73 load
            refine QL.no rfl rfl ?_
            -- R17.19 149 := more.go:73 fieldAddr
            refine QL.no rfl rfl ?_
            -- R17.20 150 := more.go:73 load
            refine QL.no rfl rfl ?_
            -- R17.21 151 := more.go:73 move
            refine QL.no rfl rfl ?_
            -- R17.22 152 := more.go:73 move
            refine QL.no rfl rfl ?_
            -- R17.23 153 := more.go:73 nilCheck
            refine QL.no rfl rfl ?_
            -- R17.24 154 := more.go:73 fieldAddr
            refine QL.no rfl rfl ?_
            -- R17.25 155 := more.go:73 indexAddr
            refine QL.no rfl rfl ?_
            -- R17.26 156 := more.go:73 indexAddr
            refine QL.no rfl rfl ?_
            -- R17.27 157 := more.go:73 load
            refine QL.no rfl rfl ?_
            -- R17.28 158 := more.go:73 binOp
            refine QL.no rfl rfl ?_
            -- R17.29 159 := more.go:73 binOp
            refine QL.no rfl rfl ?_
            -- R17.30 160 := more.go:73 pick
            refine QL.v (fun w st => by first | exact r_pickT (v := .bool _) rfl rfl | exact r_pickF (v := .bool _) rfl rfl) rfl rfl rfl ?_
            -- R17.31 7 := more.go:73 assign
            refine QL.v (fun w st => by first | exact r_assign (v := .bool _) rfl | exact r_assign rfl) rfl rfl rfl ?_
            refine QL.wl hKq fun w st => ?_
            refine WL.fin hK1221 (fun _ _ h => h) ?_
            refine WC.seq fun K1222 hK1222 => ?_
            -- region 18
            refine WC.region ?_
            -- R18.0 161 := more.go:74 fieldAddr
            refine WL.v (by exact r_field ty_fld36_3 rfl) rfl rfl rfl ?_
            -- R18.1 162 := more.go:74 fieldAddr
            refine WL.v (by exact r_field ty_fld34_0 rfl) rfl rfl rfl ?_
            -- R18.2 163 := more.go:74 load
            refine WL.v (by exact r_load1 (v := .int .i64 code) ty_one30 rfl (by rw [← f7]; exact st.c1 (by decide))) rfl rfl rfl ?_
            -- R18.3 164 := more.go:74 binOp
            refine WL.v (by first | exact r_neq rfl rfl (decide_eq_true (by omega)) | exact r_neq rfl rfl (decide_eq_false (by omega)) | exact r_neq rfl rfl rfl) rfl rfl rfl ?_
            -- R18.4 165 := more.go:74 move
            refine WL.v (by first | exact r_move (v := .bool _) rfl | exact r_move rfl) rfl rfl rfl ?_
            -- R18.5 166 := more.go:74 fieldAddr
            refine WL.v (by exact r_field ty_fld36_3 rfl) rfl rfl rfl ?_
            -- R18.6 167 := more.go:74 fieldAddr
            refine WL.v (by exact r_field ty_fld34_0 rfl) rfl rfl rfl ?_
            -- R18.7 168 := more.go:74 load
            refine WL.v (by exact r_load1 (v := .int .i64 code) ty_one30 rfl (by rw [← f7]; exact st.c1 (by decide))) rfl rfl rfl ?_
            -- R18.8 169 := more.go:74 binOp
            refine WL.v (by first | exact r_neq rfl rfl (decide_eq_true (by omega)) | exact r_neq rfl rfl (decide_eq_false (by omega)) | exact r_neq rfl rfl rfl) rfl rfl rfl ?_
            -- R18.9 170 := more.go:74 pick
            refine WL.v (by first | exact r_pickT (v := .bool _) rfl rfl | exact r_pickF (v := .bool _) rfl rfl) rfl rfl rfl ?_
            -- R18.10 8 := more.go:74 assign
            refine WL.v (by first | exact r_assign (v := .bool _) rfl | exact r_assign rfl) rfl rfl rfl ?_
            refine WL.fin hK1222 (fun _ _ h => h) ?_
            refine WC.seq fun K1223 hK1223 => ?_
            -- region 19
            refine WC.region ?_
            -- R19.0 171 := more.go:75 move
            refine WL.v (by first | exact r_move (v := .bool _) rfl | exact r_move rfl) rfl rfl rfl ?_
            -- R19.1 172 := more.go:75 move
            refine WL.v (by first | exact r_move (v := .bool _) rfl | exact r_move rfl) rfl rfl rfl ?_
            -- R19.2 173 := more.go:75 move
            refine WL.no rfl rfl ?_
            -- R19.3 174 := more.go:75 fieldAddr
            refine WL.no rfl rfl ?_
            -- R19.4 175 := more.go:75 fieldAddr
            refine WL.no rfl rfl ?_
            -- R19.5 176 := more.go:75 load
            refine WL.no rfl rfl ?_
            -- R19.6 177 := more.go:75 binOp
            refine WL.no rfl rfl ?_
            -- R19.7 178 := more.go:75 binOp
            refine WL.no rfl rfl ?_
            -- R19.8 179 := more.go:75 pick
            refine WL.v (by first | exact r_pickT (v := .bool _) rfl rfl | exact r_pickF (v := .bool _) rfl rfl) rfl rfl rfl ?_
            refine WL.fin hK1223 (fun _ _ h => h) ?_
            refine WC.condF rfl rfl ?_
            refine WC.skipJ hKC (fun _ _ h => h) () (by rw [hcs]; exact st) (by repeat (first | exact sub_nil _ | refine sub_cons rfl rfl ?_))
          · skip
            refine WC.seq fun K1224 hK1224 => ?_
            -- region 6
            refine WC.region ?_
            -- R6.0 60 := more.go:62 fieldAddr
            refine WL.v (by exact r_field ty_fld36_0 rfl) rfl rfl rfl ?_
            -- R6.1 61 := more.go:62 fieldAddr
            refine WL.v (by exact r_field ty_fld28_0 rfl) rfl rfl rfl ?_
            -- R6.2 62 := more.go:62 load
            refine WL.v (by exact r_load1 (v := .int .u8 (o.kind : Nat)) ty_one25 rfl (by rw [← f0]; exact st.c1 (by decide))) rfl rfl rfl ?_
            refine WL.fin hK1224 (fun _ _ h => h) ?_
            refine WC.block ?_
            refine WC.seq fun K1225 hK1225 => ?_
            -- region 7
            refine WC.region ?_
            -- R7.0 64 := more.go:63 binOp
            refine WL.v (by first | exact r_eql rfl rfl (decide_eq_true (by omega)) | exact r_eql rfl rfl (decide_eq_false (by omega)) | exact r_eql rfl rfl rfl) rfl rfl rfl ?_
            -- R7.1 63 := more.go:63 assign
            refine WL.v (by first | exact r_assign (v := .bool _) rfl | exact r_assign rfl) rfl rfl rfl ?_
            refine WL.fin hK1225 (fun _ _ h => h) ?_
            refine WC.condF rfl rfl ?_
            refine WC.seq fun K1226 hK1226 => ?_
            refine WC.seq fun K1227 hK1227 => ?_
            -- region 14
            refine WC.region ?_
            -- R14.0 127 := more.go:72 binOp
            refine WL.v (by first | exact r_eql rfl rfl (decide_eq_true (by omega)) | exact r_eql rfl rfl (decide_eq_false (by omega)) | exact r_eql rfl rfl rfl) rfl rfl rfl ?_
            -- R14.1 126 := more.go:72 assign
            refine WL.v (by first | exact r_assign (v := .bool _) rfl | exact r_assign rfl) rfl rfl rfl ?_
            refine WL.fin hK1227 (fun _ _ h => h) ?_
            refine WC.condF rfl rfl ?_
            refine WC.seq fun K1228 hK1228 => ?_
            -- region 15
            refine WC.region ?_
            -- R15.0 128 := more.go:72 binOp
            refine WL.v (by first | exact r_eql rfl rfl (decide_eq_true (by omega)) | exact r_eql rfl rfl (decide_eq_false (by omega)) | exact r_eql rfl rfl rfl) rfl rfl rfl ?_
            -- R15.1 126 := more.go:72 assign
            refine WL.v (by first | exact r_assign (v := .bool _) rfl | exact r_assign rfl) rfl rfl rfl ?_
            refine WL.fin hK1228 (fun _ _ h => h) ?_
            refine WC.condF rfl rfl ?_
            -- region 16
            refine WC.region ?_
            -- R16.0 129 := more.go:72 binOp
            refine WL.v (by first | exact r_eql rfl rfl (decide_eq_true (by omega)) | exact r_eql rfl rfl (decide_eq_false (by omega)) | exact r_eql rfl rfl rfl) rfl rfl rfl ?_
            -- R16.1 126 := more.go:72 assign
            refine WL.v (by first | exact r_assign (v := .bool _) rfl | exact r_assign rfl) rfl rfl rfl ?_
            refine WL.fin hK1226 (fun _ _ h => h) ?_
            refine WC.condT rfl rfl ?_
            refine WC.seq fun K1229 hK1229 => ?_
            -- region 17 (draws)
            refine WC.quietS st ty_mixed (by kernel_rfl) fun Kq hKq => ?_
            -- R17.0 130 := more.go:73 fieldAddr
            refine QL.v (fun w st => by exact r_field ty_fld36_1 rfl) rfl rfl rfl ?_
            -- R17.1 131 := more.go:73 load
            refine QL.v (fun w st => by exact r_load1 (v := .pointer (some ⟨bB, 0, none⟩)) ty_one29 rfl (by rw [← f5]; exact st.c1 (by decide))) rfl rfl rfl ?_
            -- R17.2 132 := more.go:73 nilCheck
            refine QL.v (fun w st => by exact r_nilCheck rfl) rfl rfl rfl ?_
            -- R17.3 133 := more.go:73 fieldAddr
            refine QL.v (fun w st => by exact r_field ty_fld50_0 rfl) rfl rfl rfl ?_
            -- R17.4 134 := more.go:73 load
            refine QL.v (fun w st => by exact r_load1 (v := .int .i64 (s.mode : Nat)) ty_one40 rfl (c_s (hck2 _ _).B (by decide) rfl st)) rfl rfl rfl ?_
            -- R17.5 135 := more.go:73 binOp
            refine QL.v (fun w st => by first | exact r_eql rfl rfl (decide_eq_true (by omega)) | exact r_eql rfl rfl (decide_eq_false (by omega)) | exact r_eql rfl rfl rfl) rfl rfl rfl ?_
            -- R17.6 136 := more.go:73 move
            refine QL.v (fun w st => by first | exact r_move (v := .bool _) rfl | exact r_move rfl) rfl rfl rfl ?_
            -- R17.7 137 := more.go:73 fieldAddr
            refine QL.no rfl rfl ?_
            -- R17.8 138 := more.go:73 fieldAddr
            refine QL.no rfl rfl ?_
            -- R17.9 139 := more.go:73 load
            refine QL.no rfl rfl ?_
            -- R17.10 140 := more.go:73 fieldAddr
            refine QL.no rfl rfl ?_
            -- R17.11 141 := more.go:73 load
            refine QL.no rfl rfl ?_
            -- R17.12 142 := more.go:73 move
            refine QL.no rfl rfl ?_
            -- R17.13 143 := more.go:73 move
            refine QL.no rfl rfl ?_
            -- R17.14 144 := more.go:73 nilCheck
            refine QL.no rfl rfl ?_
            -- R17.15 145 := more.go:73 fieldAddr
            refine QL.no rfl rfl ?_
            -- R17.16 146 := more.go:73 indexAddr
            refine QL.no rfl rfl ?_
            -- R17.17 147 := more.go:73 indexAddr
            refine QL.no rfl rfl ?_
            -- R17.18 148 := more.go:73 load
            refine QL.no rfl rfl ?_
            -- R17.19 149 := more.go:73 fieldAddr
            refine QL.no rfl rfl ?_
            -- R17.20 150 := more.go:73 load
            refine QL.no rfl rfl ?_
            -- R17.21 151 := more.go:73 move
            refine QL.no rfl rfl ?_
            -- R17.22 152 := more.go:73 move
            refine QL.no rfl rfl ?_
            -- R17.23 153 := more.go:73 nilCheck
            refine QL.no rfl rfl ?_
            -- R17.24 154 := more.go:73 fieldAddr
            refine QL.no rfl rfl ?_
            -- R17.25 155 := more.go:73 indexAddr
            refine QL.no rfl rfl ?_
            -- R17.26 156 := more.go:73 indexAddr
            refine QL.no rfl rfl ?_
            -- R17.27 157 := more.go:73 load
            refine QL.no rfl rfl ?_
            -- R17.28 158 := more.go:73 binOp
            refine QL.no rfl rfl ?_
            -- R17.29 159 := more.go:73 binOp
            refine QL.no rfl rfl ?_
            -- R17.30 160 := more.go:73 pick
            refine QL.v (fun w st => by first | exact r_pickT (v := .bool _) rfl rfl | exact r_pickF (v := .bool _) rfl rfl) rfl rfl rfl ?_
            -- R17.31 7 := more.go:73 assign
            refine QL.v (fun w st => by first | exact r_assign (v := .bool _) rfl | exact r_assign rfl) rfl rfl rfl ?_
            refine QL.wl hKq fun w st => ?_
            refine WL.fin hK1229 (fun _ _ h => h) ?_
            refine WC.seq fun K1230 hK1230 => ?_
            -- region 18
            refine WC.region ?_
            -- R18.0 161 := more.go:74 fieldAddr
            refine WL.v (by exact r_field ty_fld36_3 rfl) rfl rfl rfl ?_
            -- R18.1 162 := more.go:74 fieldAddr
            refine WL.v (by exact r_field ty_fld34_0 rfl) rfl rfl rfl ?_
            -- R18.2 163 := more.go:74 load
            refine WL.v (by exact r_load1 (v := .int .i64 code) ty_one30 rfl (by rw [← f7]; exact st.c1 (by decide))) rfl rfl rfl ?_
            -- R18.3 164 := more.go:74 binOp
            refine WL.v (by first | exact r_neq rfl rfl (decide_eq_true (by omega)) | exact r_neq rfl rfl (decide_eq_false (by omega)) | exact r_neq rfl rfl rfl) rfl rfl rfl ?_
            -- R18.4 165 := more.go:74 move
            refine WL.v (by first | exact r_move (v := .bool _) rfl | exact r_move rfl) rfl rfl rfl ?_
            -- R18.5 166 := more.go:74 fieldAddr
            refine WL.v (by exact r_field ty_fld36_3 rfl) rfl rfl rfl ?_
            -- R18.6 167 := more.go:74 fieldAddr
            refine WL.v (by exact r_field ty_fld34_0 rfl) rfl rfl rfl ?_
            -- R18.7 168 := more.go:74 load
            refine WL.v (by exact r_load1 (v := .int .i64 code) ty_one30 rfl (by rw [← f7]; exact st.c1 (by decide))) rfl rfl rfl ?_
            -- R18.8 169 := more.go:74 binOp
            refine WL.v (by first | exact r_neq rfl rfl (decide_eq_true (by omega)) | exact r_neq rfl rfl (decide_eq_false (by omega)) | exact r_neq rfl rfl rfl) rfl rfl rfl ?_
            -- R18.9 170 := more.go:74 pick
            refine WL.v (by first | exact r_pickT (v := .bool _) rfl rfl | exact r_pickF (v := .bool _) rfl rfl) rfl rfl rfl ?_
            -- R18.10 8 := more.go:74 assign
            refine WL.v (by first | exact r_assign (v := .bool _) rfl | exact r_assign rfl) rfl rfl rfl ?_
            refine WL.fin hK1230 (fun _ _ h => h) ?_
            refine WC.seq fun K1231 hK1231 => ?_
            -- region 19
            refine WC.region ?_
            -- R19.0 171 := more.go:75 move
            refine WL.v (by first | exact r_move (v := .bool _) rfl | exact r_move rfl) rfl rfl rfl ?_
            -- R19.1 172 := more.go:75 move
            refine WL.v (by first | exact r_move (v := .bool _) rfl | exact r_move rfl) rfl rfl rfl ?_
            -- R19.2 173 := more.go:75 move
            refine WL.no rfl rfl ?_
            -- R19.3 174 := more.go:75 fieldAddr
            refine WL.no rfl rfl ?_
            -- R19.4 175 := more.go:75 fieldAddr
            refine WL.no rfl rfl ?_
            -- R19.5 176 := more.go:75 load
            refine WL.no rfl rfl ?_
            -- R19.6 177 := more.go:75 binOp
            refine WL.no rfl rfl ?_
            -- R19.7 178 := more.go:75 binOp
            refine WL.no rfl rfl ?_
            -- R19.8 179 := more.go:75 pick
            refine WL.v (by first | exact r_pickT (v := .bool _) rfl rfl | exact r_pickF (v := .bool _) rfl rfl) rfl rfl rfl ?_
            refine WL.fin hK1231 (fun _ _ h => h) ?_
            refine WC.condF rfl rfl ?_
            refine WC.skipJ hKC (fun _ _ h => h) () (by rw [hcs]; exact st) (by repeat (first | exact sub_nil _ | refine sub_cons rfl rfl ?_))
        have hiff := ha' h14 h15
        have h21 : code ≠ 21 := fun k => hm3 (hiff.2 k).1
        rcases (by omega : o.kind = 3 ∨ o.kind = 4 ∨ o.kind = 5) with hk3 | hk4 | hk5
        · skip
          refine WC.seq fun K1232 hK1232 => ?_
          -- region 6
          refine WC.region ?_
          -- R6.0 60 := more.go:62 fieldAddr
          refine WL.v (by exact r_field ty_fld36_0 rfl) rfl rfl rfl ?_
          -- R6.1 61 := more.go:62 fieldAddr
          refine WL.v (by exact r_field ty_fld28_0 rfl) rfl rfl rfl ?_
          -- R6.2 62 := more.go:62 load
          refine WL.v (by exact r_load1 (v := .int .u8 (o.kind : Nat)) ty_one25 rfl (by rw [← f0]; exact st.c1 (by decide))) rfl rfl rfl ?_
          refine WL.fin hK1232 (fun _ _ h => h) ?_
          refine WC.block ?_
          refine WC.seq fun K1233 hK1233 => ?_
          -- region 7
          refine WC.region ?_
          -- R7.0 64 := more.go:63 binOp
          refine WL.v (by first | exact r_eql rfl rfl (decide_eq_true (by omega)) | exact r_eql rfl rfl (decide_eq_false (by omega)) | exact r_eql rfl rfl rfl) rfl rfl rfl ?_
          -- R7.1 63 := more.go:63 assign
          refine WL.v (by first | exact r_assign (v := .bool _) rfl | exact r_assign rfl) rfl rfl rfl ?_
          refine WL.fin hK1233 (fun _ _ h => h) ?_
          refine WC.condF rfl rfl ?_
          refine WC.seq fun K1234 hK1234 => ?_
          refine WC.seq fun K1235 hK1235 => ?_
          -- region 14
          refine WC.region ?_
          -- R14.0 127 := more.go:72 binOp
          refine WL.v (by first | exact r_eql rfl rfl (decide_eq_true (by omega)) | exact r_eql rfl rfl (decide_eq_false (by omega)) | exact r_eql rfl rfl rfl) rfl rfl rfl ?_
          -- R14.1 126 := more.go:72 assign
          refine WL.v (by first | exact r_assign (v := .bool _) rfl | exact r_assign rfl) rfl rfl rfl ?_
          refine WL.fin hK1235 (fun _ _ h => h) ?_
          refine WC.condT rfl rfl ?_
          refine WC.skipF hK1234 (fun _ _ h => h) ?_
          refine WC.condT rfl rfl ?_
          refine WC.seq fun K1236 hK1236 => ?_
          -- region 17 (draws)
          refine WC.quietS st ty_mixed (by kernel_rfl) fun Kq hKq => ?_
          -- R17.0 130 := more.go:73 fieldAddr
          refine QL.v (fun w st => by exact r_field ty_fld36_1 rfl) rfl rfl rfl ?_
          -- R17.1 131 := more.go:73 load
          refine QL.v (fun w st => by exact r_load1 (v := .pointer (some ⟨bB, 0, none⟩)) ty_one29 rfl (by rw [← f5]; exact st.c1 (by decide))) rfl rfl rfl ?_
          -- R17.2 132 := more.go:73 nilCheck
          refine QL.v (fun w st => by exact r_nilCheck rfl) rfl rfl rfl ?_
          -- R17.3 133 := more.go:73 fieldAddr
          refine QL.v (fun w st => by exact r_field ty_fld50_0 rfl) rfl rfl rfl ?_
          -- R17.4 134 := more.go:73 load
          refine QL.v (fun w st => by exact r_load1 (v := .int .i64 (s.mode : Nat)) ty_one40 rfl (c_s (hck2 _ _).B (by decide) rfl st)) rfl rfl rfl ?_
          -- R17.5 135 := more.go:73 binOp
          refine QL.v (fun w st => by first | exact r_eql rfl rfl (decide_eq_true (by omega)) | exact r_eql rfl rfl (decide_eq_false (by omega)) | exact r_eql rfl rfl rfl) rfl rfl rfl ?_
          -- R17.6 136 := more.go:73 move
          refine QL.v (fun w st => by first | exact r_move (v := .bool _) rfl | exact r_move rfl) rfl rfl rfl ?_
          -- R17.7 137 := more.go:73 fieldAddr
          refine QL.no rfl rfl ?_
          -- R17.8 138 := more.go:73 fieldAddr
          refine QL.no rfl rfl ?_
          -- R17.9 139 := more.go:73 load
          refine QL.no rfl rfl ?_
          -- R17.10 140 := more.go:73 fieldAddr
          refine QL.no rfl rfl ?_
          -- R17.11 141 := more.go:73 load
          refine QL.no rfl rfl ?_
          -- R17.12 142 := more.go:73 move
          refine QL.no rfl rfl ?_
          -- R17.13 143 := more.go:73 move
          refine QL.no rfl rfl ?_
          -- R17.14 144 := more.go:73 nilCheck
          refine QL.no rfl rfl ?_
          -- R17.15 145 := more.go:73 fieldAddr
          refine QL.no rfl rfl ?_
          -- R17.16 146 := more.go:73 indexAddr
          refine QL.no rfl rfl ?_
          -- R17.17 147 := more.go:73 indexAddr
          refine QL.no rfl rfl ?_
          -- R17.18 148 := more.go:73 load
          refine QL.no rfl rfl ?_
          -- R17.19 149 := more.go:73 fieldAddr
          refine QL.no rfl rfl ?_
          -- R17.20 150 := more.go:73 load
          refine QL.no rfl rfl ?_
          -- R17.21 151 := more.go:73 move
          refine QL.no rfl rfl ?_
          -- R17.22 152 := more.go:73 move
          refine QL.no rfl rfl ?_
          -- R17.23 153 := more.go:73 nilCheck
          refine QL.no rfl rfl ?_
          -- R17.24 154 := more.go:73 fieldAddr
          refine QL.no rfl rfl ?_
          -- R17.25 155 := more.go:73 indexAddr
          refine QL.no rfl rfl ?_
          -- R17.26 156 := more.go:73 indexAddr
          refine QL.no rfl rfl ?_
          -- R17.27 157 := more.go:73 load
          refine QL.no rfl rfl ?_
          -- R17.28 158 := more.go:73 binOp
          refine QL.no rfl rfl ?_
          -- R17.29 159 := more.go:73 binOp
          refine QL.no rfl rfl ?_
          -- R17.30 160 := more.go:73 pick
          refine QL.v (fun w st => by first | exact r_pickT (v := .bool _) rfl rfl | exact r_pickF (v := .bool _) rfl rfl) rfl rfl rfl ?_
          -- R17.31 7 := more.go:73 assign
          refine QL.v (fun w st => by first | exact r_assign (v := .bool _) rfl | exact r_assign rfl) rfl rfl rfl ?_
          refine QL.wl hKq fun w st => ?_
          refine WL.fin hK1236 (fun _ _ h => h) ?_
          refine WC.seq fun K1237 hK1237 => ?_
          -- region 18
          refine WC.region ?_
          -- R18.0 161 := more.go:74 fieldAddr
          refine WL.v (by exact r_field ty_fld36_3 rfl) rfl rfl rfl ?_
          -- R18.1 162 := more.go:74 fieldAddr
          refine WL.v (by exact r_field ty_fld34_0 rfl) rfl rfl rfl ?_
          -- R18.2 163 := more.go:74 load
          refine WL.v (by exact r_load1 (v := .int .i64 code) ty_one30 rfl (by rw [← f7]; exact st.c1 (by decide))) rfl rfl rfl ?_
          -- R18.3 164 := more.go:74 binOp
          refine WL.v (by first | exact r_neq rfl rfl (decide_eq_true (by omega)) | exact r_neq rfl rfl (decide_eq_false (by omega)) | exact r_neq rfl rfl rfl) rfl rfl rfl ?_
          -- R18.4 165 := more.go:74 move
          refine WL.v (by first | exact r_move (v := .bool _) rfl | exact r_move rfl) rfl rfl rfl ?_
          -- R18.5 166 := more.go:74 fieldAddr
          refine WL.v (by exact r_field ty_fld36_3 rfl) rfl rfl rfl ?_
          -- R18.6 167 := more.go:74 fieldAddr
          refine WL.v (by exact r_field ty_fld34_0 rfl) rfl rfl rfl ?_
          -- R18.7 168 := more.go:74 load
          refine WL.v (by exact r_load1 (v := .int .i64 code) ty_one30 rfl (by rw [← f7]; exact st.c1 (by decide))) rfl rfl rfl ?_
          -- R18.8 169 := more.go:74 binOp
          refine WL.v (by first | exact r_neq rfl rfl (decide_eq_true (by omega)) | exact r_neq rfl rfl (decide_eq_false (by omega)) | exact r_neq rfl rfl rfl) rfl rfl rfl ?_
          -- R18.9 170 := more.go:74 pick
          refine WL.v (by first | exact r_pickT (v := .bool _) rfl rfl | exact r_pickF (v := .bool _) rfl rfl) rfl rfl rfl ?_
          -- R18.10 8 := more.go:74 assign
          refine WL.v (by first | exact r_assign (v := .bool _) rfl | exact r_assign rfl) rfl rfl rfl ?_
          refine WL.fin hK1237 (fun _ _ h => h) ?_
          refine WC.seq fun K1238 hK1238 => ?_
          -- region 19
          refine WC.region ?_
          -- R19.0 171 := more.go:75 move
          refine WL.v (by first | exact r_move (v := .bool _) rfl | exact r_move rfl) rfl rfl rfl ?_
          -- R19.1 172 := more.go:75 move
          refine WL.v (by first | exact r_move (v := .bool _) rfl | exact r_move rfl) rfl rfl rfl ?_
          -- R19.2 173 := more.go:75 move
          refine WL.v (by first | exact r_move (v := .bool _) rfl | exact r_move rfl) rfl rfl rfl ?_
          -- R19.3 174 := more.go:75 fieldAddr
          refine WL.v (by exact r_field ty_fld36_3 rfl) rfl rfl rfl ?_
          -- R19.4 175 := more.go:75 fieldAddr
          refine WL.v (by exact r_field ty_fld34_0 rfl) rfl rfl rfl ?_
          -- R19.5 176 := more.go:75 load
          refine WL.v (by exact r_load1 (v := .int .i64 code) ty_one30 rfl (by rw [← f7]; exact st.c1 (by decide))) rfl rfl rfl ?_
          -- R19.6 177 := more.go:75 binOp
          refine WL.v (by first | exact r_eql rfl rfl (decide_eq_true (by omega)) | exact r_eql rfl rfl (decide_eq_false (by omega)) | exact r_eql rfl rfl rfl) rfl rfl rfl ?_
          -- R19.7 178 := more.go:75 binOp
          refine WL.v (by exact r_bneq ty_bool4 rfl rfl rfl) rfl rfl rfl ?_
          -- R19.8 179 := more.go:75 pick
          refine WL.v (by first | exact r_pickT (v := .bool _) rfl rfl | exact r_pickF (v := .bool _) rfl rfl) rfl rfl rfl ?_
          refine WL.fin hK1238 (fun _ _ h => h) ?_
          refine WC.condF rfl rfl ?_
          refine WC.skipJ hKC (fun _ _ h => h) () (by rw [hcs]; exact st) (by repeat (first | exact sub_nil _ | refine sub_cons rfl rfl ?_))
        · skip
          refine WC.seq fun K1239 hK1239 => ?_
          -- region 6
          refine WC.region ?_
          -- R6.0 60 := more.go:62 fieldAddr
          refine WL.v (by exact r_field ty_fld36_0 rfl) rfl rfl rfl ?_
          -- R6.1 61 := more.go:62 fieldAddr
          refine WL.v (by exact r_field ty_fld28_0 rfl) rfl rfl rfl ?_
          -- R6.2 62 := more.go:62 load
          refine WL.v (by exact r_load1 (v := .int .u8 (o.kind : Nat)) ty_one25 rfl (by rw [← f0]; exact st.c1 (by decide))) rfl rfl rfl ?_
          refine WL.fin hK1239 (fun _ _ h => h) ?_
          refine WC.block ?_
          refine WC.seq fun K1240 hK1240 => ?_
          -- region 7
          refine WC.region ?_
          -- R7.0 64 := more.go:63 binOp
          refine WL.v (by first | exact r_eql rfl rfl (decide_eq_true (by omega)) | exact r_eql rfl rfl (decide_eq_false (by omega)) | exact r_eql rfl rfl rfl) rfl rfl rfl ?_
          -- R7.1 63 := more.go:63 assign
          refine WL.v (by first | exact r_assign (v := .bool _) rfl | exact r_assign rfl) rfl rfl rfl ?_
          refine WL.fin hK1240 (fun _ _ h => h) ?_
          refine WC.condF rfl rfl ?_
          refine WC.seq fun K1241 hK1241 => ?_
          refine WC.seq fun K1242 hK1242 => ?_
          -- region 14
          refine WC.region ?_
          -- R14.0 127 := more.go:72 binOp
          refine WL.v (by first | exact r_eql rfl rfl (decide_eq_true (by omega)) | exact r_eql rfl rfl (decide_eq_false (by omega)) | exact r_eql rfl rfl rfl) rfl rfl rfl ?_
          -- R14.1 126 := more.go:72 assign
          refine WL.v (by first | exact r_assign (v := .bool _) rfl | exact r_assign rfl) rfl rfl rfl ?_
          refine WL.fin hK1242 (fun _ _ h => h) ?_
          refine WC.condF rfl rfl ?_
          refine WC.seq fun K1243 hK1243 => ?_
          -- region 15
          refine WC.region ?_
          -- R15.0 128 := more.go:72 binOp
          refine WL.v (by first | exact r_eql rfl rfl (decide_eq_true (by omega)) | exact r_eql rfl rfl (decide_eq_false (by omega)) | exact r_eql rfl rfl rfl) rfl rfl rfl ?_
          -- R15.1 126 := more.go:72 assign
          refine WL.v (by first | exact r_assign (v := .bool _) rfl | exact r_assign rfl) rfl rfl rfl ?_
          refine WL.fin hK1243 (fun _ _ h => h) ?_
          refine WC.condT rfl rfl ?_
          refine WC.skipF hK1241 (fun _ _ h => h) ?_
          refine WC.condT rfl rfl ?_
          refine WC.seq fun K1244 hK1244 => ?_
          -- region 17 (draws)
          refine WC.quietS st ty_mixed (by kernel_rfl) fun Kq hKq => ?_
          -- R17.0 130 := more.go:73 fieldAddr
          refine QL.v (fun w st => by exact r_field ty_fld36_1 rfl) rfl rfl rfl ?_
          -- R17.1 131 := more.go:73 load
          refine QL.v (fun w st => by exact r_load1 (v := .pointer (some ⟨bB, 0, none⟩)) ty_one29 rfl (by rw [← f5]; exact st.c1 (by decide))) rfl rfl rfl ?_
          -- R17.2 132 := more.go:73 nilCheck
          refine QL.v (fun w st => by exact r_nilCheck rfl) rfl rfl rfl ?_
          -- R17.3 133 := more.go:73 fieldAddr
          refine QL.v (fun w st => by exact r_field ty_fld50_0 rfl) rfl rfl rfl ?_
          -- R17.4 134 := more.go:73 load
          refine QL.v (fun w st => by exact r_load1 (v := .int .i64 (s.mode : Nat)) ty_one40 rfl (c_s (hck2 _ _).B (by decide) rfl st)) rfl rfl rfl ?_
          -- R17.5 135 := more.go:73 binOp
          refine QL.v (fun w st => by first | exact r_eql rfl rfl (decide_eq_true (by omega)) | exact r_eql rfl rfl (decide_eq_false (by omega)) | exact r_eql rfl rfl rfl) rfl rfl rfl ?_
          -- R17.6 136 := more.go:73 move
          refine QL.v (fun w st => by first | exact r_move (v := .bool _) rfl | exact r_move rfl) rfl rfl rfl ?_
          -- R17.7 137 := more.go:73 fieldAddr
          refine QL.no rfl rfl ?_
          -- R17.8 138 := more.go:73 fieldAddr
          refine QL.no rfl rfl ?_
          -- R17.9 139 := more.go:73 load
          refine QL.no rfl rfl ?_
          -- R17.10 140 := more.go:73 fieldAddr
          refine QL.no rfl rfl ?_
          -- R17.11 141 := more.go:73 load
          refine QL.no rfl rfl ?_
          -- R17.12 142 := more.go:73 move
          refine QL.no rfl rfl ?_
          -- R17.13 143 := more.go:73 move
          refine QL.no rfl rfl ?_
          -- R17.14 144 := more.go:73 nilCheck
          refine QL.no rfl rfl ?_
          -- R17.15 145 := more.go:73 fieldAddr
          refine QL.no rfl rfl ?_
          -- R17.16 146 := more.go:73 indexAddr
          refine QL.no rfl rfl ?_
          -- R17.17 147 := more.go:73 indexAddr
          refine QL.no rfl rfl ?_
          -- R17.18 148 := more.go:73 load
          refine QL.no rfl rfl ?_
          -- R17.19 149 := more.go:73 fieldAddr
          refine QL.no rfl rfl ?_
          -- R17.20 150 := more.go:73 load
          refine QL.no rfl rfl ?_
          -- R17.21 151 := more.go:73 move
          refine QL.no rfl rfl ?_
          -- R17.22 152 := more.go:73 move
          refine QL.no rfl rfl ?_
          -- R17.23 153 := more.go:73 nilCheck
          refine QL.no rfl rfl ?_
          -- R17.24 154 := more.go:73 fieldAddr
          refine QL.no rfl rfl ?_
          -- R17.25 155 := more.go:73 indexAddr
          refine QL.no rfl rfl ?_
          -- R17.26 156 := more.go:73 indexAddr
          refine QL.no rfl rfl ?_
          -- R17.27 157 := more.go:73 load
          refine QL.no rfl rfl ?_
          -- R17.28 158 := more.go:73 binOp
          refine QL.no rfl rfl ?_
          -- R17.29 159 := more.go:73 binOp
          refine QL.no rfl rfl ?_
          -- R17.30 160 := more.go:73 pick
          refine QL.v (fun w st => by first | exact r_pickT (v := .bool _) rfl rfl | exact r_pickF (v := .bool _) rfl rfl) rfl rfl rfl ?_
          -- R17.31 7 := more.go:73 assign
          refine QL.v (fun w st => by first | exact r_assign (v := .bool _) rfl | exact r_assign rfl) rfl rfl rfl ?_
          refine QL.wl hKq fun w st => ?_
          refine WL.fin hK1244 (fun _ _ h => h) ?_
          refine WC.seq fun K1245 hK1245 => ?_
          -- region 18
          refine WC.region ?_
          -- R18.0 161 := more.go:74 fieldAddr
          refine WL.v (by exact r_field ty_fld36_3 rfl) rfl rfl rfl ?_
          -- R18.1 162 := more.go:74 fieldAddr
          refine WL.v (by exact r_field ty_fld34_0 rfl) rfl rfl rfl ?_
          -- R18.2 163 := more.go:74 load
          refine WL.v (by exact r_load1 (v := .int .i64 code) ty_one30 rfl (by rw [← f7]; exact st.c1 (by decide))) rfl rfl rfl ?_
          -- R18.3 164 := more.go:74 binOp
          refine WL.v (by first | exact r_neq rfl rfl (decide_eq_true (by omega)) | exact r_neq rfl rfl (decide_eq_false (by omega)) | exact r_neq rfl rfl rfl) rfl rfl rfl ?_
          -- R18.4 165 := more.go:74 move
          refine WL.v (by first | exact r_move (v := .bool _) rfl | exact r_move rfl) rfl rfl rfl ?_
          -- R18.5 166 := more.go:74 fieldAddr
          refine WL.v (by exact r_field ty_fld36_3 rfl) rfl rfl rfl ?_
          -- R18.6 167 := more.go:74 fieldAddr
          refine WL.v (by exact r_field ty_fld34_0 rfl) rfl rfl rfl ?_
          -- R18.7 168 := more.go:74 load
          refine WL.v (by exact r_load1 (v := .int .i64 code) ty_one30 rfl (by rw [← f7]; exact st.c1 (by decide))) rfl rfl rfl ?_
          -- R18.8 169 := more.go:74 binOp
          refine WL.v (by first | exact r_neq rfl rfl (decide_eq_true (by omega)) | exact r_neq rfl rfl (decide_eq_false (by omega)) | exact r_neq rfl rfl rfl) rfl rfl rfl ?_
          -- R18.9 170 := more.go:74 pick
          refine WL.v (by first | exact r_pickT (v := .bool _) rfl rfl | exact r_pickF (v := .bool _) rfl rfl) rfl rfl rfl ?_
          -- R18.10 8 := more.go:74 assign
          refine WL.v (by first | exact r_assign (v := .bool _) rfl | exact r_assign rfl) rfl rfl rfl ?_
          refine WL.fin hK1245 (fun _ _ h => h) ?_
          refine WC.seq fun K1246 hK1246 => ?_
          -- region 19
          refine WC.region ?_
          -- R19.0 171 := more.go:75 move
          refine WL.v (by first | exact r_move (v := .bool _) rfl | exact r_move rfl) rfl rfl rfl ?_
          -- R19.1 172 := more.go:75 move
          refine WL.v (by first | exact r_move (v := .bool _) rfl | exact r_move rfl) rfl rfl rfl ?_
          -- R19.2 173 := more.go:75 move
          refine WL.v (by first | exact r_move (v := .bool _) rfl | exact r_move rfl) rfl rfl rfl ?_
          -- R19.3 174 := more.go:75 fieldAddr
          refine WL.v (by exact r_field ty_fld36_3 rfl) rfl rfl rfl ?_
          -- R19.4 175 := more.go:75 fieldAddr
          refine WL.v (by exact r_field ty_fld34_0 rfl) rfl rfl rfl ?_
          -- R19.5 176 := more.go:75 load
          refine WL.v (by exact r_load1 (v := .int .i64 code) ty_one30 rfl (by rw [← f7]; exact st.c1 (by decide))) rfl rfl rfl ?_
          -- R19.6 177 := more.go:75 binOp
          refine WL.v (by first | exact r_eql rfl rfl (decide_eq_true (by omega)) | exact r_eql rfl rfl (decide_eq_false (by omega)) | exact r_eql rfl rfl rfl) rfl rfl rfl ?_
          -- R19.7 178 := more.go:75 binOp
          refine WL.v (by exact r_bneq ty_bool4 rfl rfl rfl) rfl rfl rfl ?_
          -- R19.8 179 := more.go:75 pick
          refine WL.v (by first | exact r_pickT (v := .bool _) rfl rfl | exact r_pickF (v := .bool _) rfl rfl) rfl rfl rfl ?_
          refine WL.fin hK1246 (fun _ _ h => h) ?_
          refine WC.condF rfl rfl ?_
          refine WC.skipJ hKC (fun _ _ h => h) () (by rw [hcs]; exact st) (by repeat (first | exact sub_nil _ | refine sub_cons rfl rfl ?_))
        · skip
          refine WC.seq fun K1247 hK1247 => ?_
          -- region 6
          refine WC.region ?_
          -- R6.0 60 := more.go:62 fieldAddr
          refine WL.v (by exact r_field ty_fld36_0 rfl) rfl rfl rfl ?_
          -- R6.1 61 := more.go:62 fieldAddr
          refine WL.v (by exact r_field ty_fld28_0 rfl) rfl rfl rfl ?_
          -- R6.2 62 := more.go:62 load
          refine WL.v (by exact r_load1 (v := .int .u8 (o.kind : Nat)) ty_one25 rfl (by rw [← f0]; exact st.c1 (by decide))) rfl rfl rfl ?_
          refine WL.fin hK1247 (fun _ _ h => h) ?_
          refine WC.block ?_
          refine WC.seq fun K1248 hK1248 => ?_
          -- region 7
          refine WC.region ?_
          -- R7.0 64 := more.go:63 binOp
          refine WL.v (by first | exact r_eql rfl rfl (decide_eq_true (by omega)) | exact r_eql rfl rfl (decide_eq_false (by omega)) | exact r_eql rfl rfl rfl) rfl rfl rfl ?_
          -- R7.1 63 := more.go:63 assign
          refine WL.v (by first | exact r_assign (v := .bool _) rfl | exact r_assign rfl) rfl rfl rfl ?_
          refine WL.fin hK1248 (fun _ _ h => h) ?_
          refine WC.condF rfl rfl ?_
          refine WC.seq fun K1249 hK1249 => ?_
          refine WC.seq fun K1250 hK1250 => ?_
          -- region 14
          refine WC.region ?_
          -- R14.0 127 := more.go:72 binOp
          refine WL.v (by first | exact r_eql rfl rfl (decide_eq_true (by omega)) | exact r_eql rfl rfl (decide_eq_false (by omega)) | exact r_eql rfl rfl rfl) rfl rfl rfl ?_
          -- R14.1 126 := more.go:72 assign
          refine WL.v (by first | exact r_assign (v := .bool _) rfl | exact r_assign rfl) rfl rfl rfl ?_
          refine WL.fin hK1250 (fun _ _ h => h) ?_
          refine WC.condF rfl rfl ?_
          refine WC.seq fun K1251 hK1251 => ?_
          -- region 15
          refine WC.region ?_
          -- R15.0 128 := more.go:72 binOp
          refine WL.v (by first | exact r_eql rfl rfl (decide_eq_true (by omega)) | exact r_eql rfl rfl (decide_eq_false (by omega)) | exact r_eql rfl rfl rfl) rfl rfl rfl ?_
          -- R15.1 126 := more.go:72 assign
          refine WL.v (by first | exact r_assign (v := .bool _) rfl | exact r_assign rfl) rfl rfl rfl ?_
          refine WL.fin hK1251 (fun _ _ h => h) ?_
          refine WC.condF rfl rfl ?_
          -- region 16
          refine WC.region ?_
          -- R16.0 129 := more.go:72 binOp
          refine WL.v (by first | exact r_eql rfl rfl (decide_eq_true (by omega)) | exact r_eql rfl rfl (decide_eq_false (by omega)) | exact r_eql rfl rfl rfl) rfl rfl rfl ?_
          -- R16.1 126 := more.go:72 assign
          refine WL.v (by first | exact r_assign (v := .bool _) rfl | exact r_assign rfl) rfl rfl rfl ?_
          refine WL.fin hK1249 (fun _ _ h => h) ?_
          refine WC.condT rfl rfl ?_
          refine WC.seq fun K1252 hK1252 => ?_
          -- region 17 (draws)
          refine WC.quietS st ty_mixed (by kernel_rfl) fun Kq hKq => ?_
          -- R17.0 130 := more.go:73 fieldAddr
          refine QL.v (fun w st => by exact r_field ty_fld36_1 rfl) rfl rfl rfl ?_
          -- R17.1 131 := more.go:73 load
          refine QL.v (fun w st => by exact r_load1 (v := .pointer (some ⟨bB, 0, none⟩)) ty_one29 rfl (by rw [← f5]; exact st.c1 (by decide))) rfl rfl rfl ?_
          -- R17.2 132 := more.go:73 nilCheck
          refine QL.v (fun w st => by exact r_nilCheck rfl) rfl rfl rfl ?_
          -- R17.3 133 := more.go:73 fieldAddr
          refine QL.v (fun w st => by exact r_field ty_fld50_0 rfl) rfl rfl rfl ?_
          -- R17.4 134 := more.go:73 load
          refine QL.v (fun w st => by exact r_load1 (v := .int .i64 (s.mode : Nat)) ty_one40 rfl (c_s (hck2 _ _).B (by decide) rfl st)) rfl rfl rfl ?_
          -- R17.5 135 := more.go:73 binOp
          refine QL.v (fun w st => by first | exact r_eql rfl rfl (decide_eq_true (by omega)) | exact r_eql rfl rfl (decide_eq_false (by omega)) | exact r_eql rfl rfl rfl) rfl rfl rfl ?_
          -- R17.6 136 := more.go:73 move
          refine QL.v (fun w st => by first | exact r_move (v := .bool _) rfl | exact r_move rfl) rfl rfl rfl ?_
          -- R17.7 137 := more.go:73 fieldAddr
          refine QL.no rfl rfl ?_
          -- R17.8 138 := more.go:73 fieldAddr
          refine QL.no rfl rfl ?_
          -- R17.9 139 := more.go:73 load
          refine QL.no rfl rfl ?_
          -- R17.10 140 := more.go:73 fieldAddr
          refine QL.no rfl rfl ?_
          -- R17.11 141 := more.go:73 load
          refine QL.no rfl rfl ?_
          -- R17.12 142 := more.go:73 move
          refine QL.no rfl rfl ?_
          -- R17.13 143 := more.go:73 move
          refine QL.no rfl rfl ?_
          -- R17.14 144 := more.go:73 nilCheck
          refine QL.no rfl rfl ?_
          -- R17.15 145 := more.go:73 fieldAddr
          refine QL.no rfl rfl ?_
          -- R17.16 146 := more.go:73 indexAddr
          refine QL.no rfl rfl ?_
          -- R17.17 147 := more.go:73 indexAddr
          refine QL.no rfl rfl ?_
          -- R17.18 148 := more.go:73 load
          refine QL.no rfl rfl ?_
          -- R17.19 149 := more.go:73 fieldAddr
          refine QL.no rfl rfl ?_
          -- R17.20 150 := more.go:73 load
          refine QL.no rfl rfl ?_
          -- R17.21 151 := more.go:73 move
          refine QL.no rfl rfl ?_
          -- R17.22 152 := more.go:73 move
          refine QL.no rfl rfl ?_
          -- R17.23 153 := more.go:73 nilCheck
          refine QL.no rfl rfl ?_
          -- R17.24 154 := more.go:73 fieldAddr
          refine QL.no rfl rfl ?_
          -- R17.25 155 := more.go:73 indexAddr
          refine QL.no rfl rfl ?_
          -- R17.26 156 := more.go:73 indexAddr
          refine QL.no rfl rfl ?_
          -- R17.27 157 := more.go:73 load
          refine QL.no rfl rfl ?_
          -- R17.28 158 := more.go:73 binOp
          refine QL.no rfl rfl ?_
          -- R17.29 159 := more.go:73 binOp
          refine QL.no rfl rfl ?_
          -- R17.30 160 := more.go:73 pick
          refine QL.v (fun w st => by first | exact r_pickT (v := .bool _) rfl rfl | exact r_pickF (v := .bool _) rfl rfl) rfl rfl rfl ?_
          -- R17.31 7 := more.go:73 assign
          refine QL.v (fun w st => by first | exact r_assign (v := .bool _) rfl | exact r_assign rfl) rfl rfl rfl ?_
          refine QL.wl hKq fun w st => ?_
          refine WL.fin hK1252 (fun _ _ h => h) ?_
          refine WC.seq fun K1253 hK1253 => ?_
          -- region 18
          refine WC.region ?_
          -- R18.0 161 := more.go:74 fieldAddr
          refine WL.v (by exact r_field ty_fld36_3 rfl) rfl rfl rfl ?_
          -- R18.1 162 := more.go:74 fieldAddr
          refine WL.v (by exact r_field ty_fld34_0 rfl) rfl rfl rfl ?_
          -- R18.2 163 := more.go:74 load
          refine WL.v (by exact r_load1 (v := .int .i64 code) ty_one30 rfl (by rw [← f7]; exact st.c1 (by decide))) rfl rfl rfl ?_
          -- R18.3 164 := more.go:74 binOp
          refine WL.v (by first | exact r_neq rfl rfl (decide_eq_true (by omega)) | exact r_neq rfl rfl (decide_eq_false (by omega)) | exact r_neq rfl rfl rfl) rfl rfl rfl ?_
          -- R18.4 165 := more.go:74 move
          refine WL.v (by first | exact r_move (v := .bool _) rfl | exact r_move rfl) rfl rfl rfl ?_
          -- R18.5 166 := more.go:74 fieldAddr
          refine WL.v (by exact r_field ty_fld36_3 rfl) rfl rfl rfl ?_
          -- R18.6 167 := more.go:74 fieldAddr
          refine WL.v (by exact r_field ty_fld34_0 rfl) rfl rfl rfl ?_
          -- R18.7 168 := more.go:74 load
          refine WL.v (by exact r_load1 (v := .int .i64 code) ty_one30 rfl (by rw [← f7]; exact st.c1 (by decide))) rfl rfl rfl ?_
          -- R18.8 169 := more.go:74 binOp
          refine WL.v (by first | exact r_neq rfl rfl (decide_eq_true (by omega)) | exact r_neq rfl rfl (decide_eq_false (by omega)) | exact r_neq rfl rfl rfl) rfl rfl rfl ?_
          -- R18.9 170 := more.go:74 pick
          refine WL.v (by first | exact r_pickT (v := .bool _) rfl rfl | exact r_pickF (v := .bool _) rfl rfl) rfl rfl rfl ?_
          -- R18.10 8 := more.go:74 assign
          refine WL.v (by first | exact r_assign (v := .bool _) rfl | exact r_assign rfl) rfl rfl rfl ?_
          refine WL.fin hK1253 (fun _ _ h => h) ?_
          refine WC.seq fun K1254 hK1254 => ?_
          -- region 19
          refine WC.region ?_
          -- R19.0 171 := more.go:75 move
          refine WL.v (by first | exact r_move (v := .bool _) rfl | exact r_move rfl) rfl rfl rfl ?_
          -- R19.1 172 := more.go:75 move
          refine WL.v (by first | exact r_move (v := .bool _) rfl | exact r_move rfl) rfl rfl rfl ?_
          -- R19.2 173 := more.go:75 move
          refine WL.v (by first | exact r_move (v := .bool _) rfl | exact r_move rfl) rfl rfl rfl ?_
          -- R19.3 174 := more.go:75 fieldAddr
          refine WL.v (by exact r_field ty_fld36_3 rfl) rfl rfl rfl ?_
          -- R19.4 175 := more.go:75 fieldAddr
          refine WL.v (by exact r_field ty_fld34_0 rfl) rfl rfl rfl ?_
          -- R19.5 176 := more.go:75 load
          refine WL.v (by exact r_load1 (v := .int .i64 code) ty_one30 rfl (by rw [← f7]; exact st.c1 (by decide))) rfl rfl rfl ?_
          -- R19.6 177 := more.go:75 binOp
          refine WL.v (by first | exact r_eql rfl rfl (decide_eq_true (by omega)) | exact r_eql rfl rfl (decide_eq_false (by omega)) | exact r_eql rfl rfl rfl) rfl rfl rfl ?_
          -- R19.7 178 := more.go:75 binOp
          refine WL.v (by exact r_bneq ty_bool4 rfl rfl rfl) rfl rfl rfl ?_
          -- R19.8 179 := more.go:75 pick
          refine WL.v (by first | exact r_pickT (v := .bool _) rfl rfl | exact r_pickF (v := .bool _) rfl rfl) rfl rfl rfl ?_
          refine WL.fin hK1254 (fun _ _ h => h) ?_
          refine WC.condF rfl rfl ?_
          refine WC.skipJ hKC (fun _ _ h => h) () (by rw [hcs]; exact st) (by repeat (first | exact sub_nil _ | refine sub_cons rfl rfl ?_))
    by_cases hk9 : o.kind = 9
    · have hcx := hx hk9 hF
      refine WC.seq fun K1255 hK1255 => ?_
      -- region 6
      refine WC.region ?_
      -- R6.0 60 := more.go:62 fieldAddr
      refine WL.v (by exact r_field ty_fld36_0 rfl) rfl rfl rfl ?_
      -- R6.1 61 := more.go:62 fieldAddr
      refine WL.v (by exact r_field ty_fld28_0 rfl) rfl rfl rfl ?_
      -- R6.2 62 := more.go:62 load
      refine WL.v (by exact r_load1 (v := .int .u8 (o.kind : Nat)) ty_one25 rfl (by rw [← f0]; exact st.c1 (by decide))) rfl rfl rfl ?_
      refine WL.fin hK1255 (fun _ _ h => h) ?_
      refine WC.block ?_
      refine WC.seq fun K1256 hK1256 => ?_
      -- region 7
      refine WC.region ?_
      -- R7.0 64 := more.go:63 binOp
      refine WL.v (by first | exact r_eql rfl rfl (decide_eq_true (by omega)) | exact r_eql rfl rfl (decide_eq_false (by omega)) | exact r_eql rfl rfl rfl) rfl rfl rfl ?_
      -- R7.1 63 := more.go:63 assign
      refine WL.v (by first | exact r_assign (v := .bool _) rfl | exact r_assign rfl) rfl rfl rfl ?_
      refine WL.fin hK1256 (fun _ _ h => h) ?_
      refine WC.condF rfl rfl ?_
      refine WC.seq fun K1257 hK1257 => ?_
      refine WC.seq fun K1258 hK1258 => ?_
      -- region 14
      refine WC.region ?_
      -- R14.0 127 := more.go:72 binOp
      refine WL.v (by first | exact r_eql rfl rfl (decide_eq_true (by omega)) | exact r_eql rfl rfl (decide_eq_false (by omega)) | exact r_eql rfl rfl rfl) rfl rfl rfl ?_
      -- R14.1 126 := more.go:72 assign
      refine WL.v (by first | exact r_assign (v := .bool _) rfl | exact r_assign rfl) rfl rfl rfl ?_
      refine WL.fin hK1258 (fun _ _ h => h) ?_
      refine WC.condF rfl rfl ?_
      refine WC.seq fun K1259 hK1259 => ?_
      -- region 15
      refine WC.region ?_
      -- R15.0 128 := more.go:72 binOp
      refine WL.v (by first | exact r_eql rfl rfl (decide_eq_true (by omega)) | exact r_eql rfl rfl (decide_eq_false (by omega)) | exact r_eql rfl rfl rfl) rfl rfl rfl ?_
      -- R15.1 126 := more.go:72 assign
      refine WL.v (by first | exact r_assign (v := .bool _) rfl | exact r_assign rfl) rfl rfl rfl ?_
      refine WL.fin hK1259 (fun _ _ h => h) ?_
      refine WC.condF rfl rfl ?_
      -- region 16
      refine WC.region ?_
      -- R16.0 129 := more.go:72 binOp
      refine WL.v (by first | exact r_eql rfl rfl (decide_eq_true (by omega)) | exact r_eql rfl rfl (decide_eq_false (by omega)) | exact r_eql rfl rfl rfl) rfl rfl rfl ?_
      -- R16.1 126 := more.go:72 assign
      refine WL.v (by first | exact r_assign (v := .bool _) rfl | exact r_assign rfl) rfl rfl rfl ?_
      refine WL.fin hK1257 (fun _ _ h => h) ?_
      refine WC.condF rfl rfl ?_
      refine WC.seq fun K1260 hK1260 => ?_
      -- region 21
      refine WC.region ?_
      -- R21.0 181 := more.go:78 binOp
      refine WL.v (by first | exact r_eql rfl rfl (decide_eq_true (by omega)) | exact r_eql rfl rfl (decide_eq_false (by omega)) | exact r_eql rfl rfl rfl) rfl rfl rfl ?_
      -- R21.1 180 := more.go:78 assign
      refine WL.v (by first | exact r_assign (v := .bool _) rfl | exact r_assign rfl) rfl rfl rfl ?_
      refine WL.fin hK1260 (fun _ _ h => h) ?_
      refine WC.condT rfl rfl ?_
      -- region 22
      refine WC.region ?_
      -- R22.0 182 := more.go:79 move
      refine WL.v (by exact r_move (v := .int .i64 (t : Nat)) (congrArg (Value.int .i64) hT)) rfl rfl rfl ?_
      -- R22.1 183 := more.go:79 build
      refine WL.v (by exact r_buildN (n := 20) (z := fun _ => .int .i64 0) (v := fun _ => .int .i64 0) (ps := []) ty_pl44 ty_zeroN44 rfl fill_nil) rfl rfl rfl ?_
      -- R22.2 184 := more.go:79 indexAddr
      refine WL.v (by exact r_indexA (j := t) ty_ar45 rfl rfl rfl ht16) rfl rfl rfl ?_
      -- R22.3 None := more.go:79 store
      refine WL.storeN (v := fun _ => .int .i64 0) st ty_agg44 rfl rfl (fun _ _ => rfl) (by omega) rfl rfl ?_
      intro w st
      refine WL.join hKC (fun _ _ h => h) () (by rw [hcx]; exact stE (hM_zap ht16) st) (by repeat (first | exact sub_nil _ | refine sub_cons rfl rfl ?_))
    · have hcs := hs hk2 hk9
      refine WC.seq fun K1261 hK1261 => ?_
      -- region 6
      refine WC.region ?_
      -- R6.0 60 := more.go:62 fieldAddr
      refine WL.v (by exact r_field ty_fld36_0 rfl) rfl rfl rfl ?_
      -- R6.1 61 := more.go:62 fieldAddr
      refine WL.v (by exact r_field ty_fld28_0 rfl) rfl rfl rfl ?_
      -- R6.2 62 := more.go:62 load
      refine WL.v (by exact r_load1 (v := .int .u8 (o.kind : Nat)) ty_one25 rfl (by rw [← f0]; exact st.c1 (by decide))) rfl rfl rfl ?_
      refine WL.fin hK1261 (fun _ _ h => h) ?_
      refine WC.block ?_
      refine WC.seq fun K1262 hK1262 => ?_
      -- region 7
      refine WC.region ?_
      -- R7.0 64 := more.go:63 binOp
      refine WL.v (by first | exact r_eql rfl rfl (decide_eq_true (by omega)) | exact r_eql rfl rfl (decide_eq_false (by omega)) | exact r_eql rfl rfl rfl) rfl rfl rfl ?_
      -- R7.1 63 := more.go:63 assign
      refine WL.v (by first | exact r_assign (v := .bool _) rfl | exact r_assign rfl) rfl rfl rfl ?_
      refine WL.fin hK1262 (fun _ _ h => h) ?_
      refine WC.condF rfl rfl ?_
      refine WC.seq fun K1263 hK1263 => ?_
      refine WC.seq fun K1264 hK1264 => ?_
      -- region 14
      refine WC.region ?_
      -- R14.0 127 := more.go:72 binOp
      refine WL.v (by first | exact r_eql rfl rfl (decide_eq_true (by omega)) | exact r_eql rfl rfl (decide_eq_false (by omega)) | exact r_eql rfl rfl rfl) rfl rfl rfl ?_
      -- R14.1 126 := more.go:72 assign
      refine WL.v (by first | exact r_assign (v := .bool _) rfl | exact r_assign rfl) rfl rfl rfl ?_
      refine WL.fin hK1264 (fun _ _ h => h) ?_
      refine WC.condF rfl rfl ?_
      refine WC.seq fun K1265 hK1265 => ?_
      -- region 15
      refine WC.region ?_
      -- R15.0 128 := more.go:72 binOp
      refine WL.v (by first | exact r_eql rfl rfl (decide_eq_true (by omega)) | exact r_eql rfl rfl (decide_eq_false (by omega)) | exact r_eql rfl rfl rfl) rfl rfl rfl ?_
      -- R15.1 126 := more.go:72 assign
      refine WL.v (by first | exact r_assign (v := .bool _) rfl | exact r_assign rfl) rfl rfl rfl ?_
      refine WL.fin hK1265 (fun _ _ h => h) ?_
      refine WC.condF rfl rfl ?_
      -- region 16
      refine WC.region ?_
      -- R16.0 129 := more.go:72 binOp
      refine WL.v (by first | exact r_eql rfl rfl (decide_eq_true (by omega)) | exact r_eql rfl rfl (decide_eq_false (by omega)) | exact r_eql rfl rfl rfl) rfl rfl rfl ?_
      -- R16.1 126 := more.go:72 assign
      refine WL.v (by first | exact r_assign (v := .bool _) rfl | exact r_assign rfl) rfl rfl rfl ?_
      refine WL.fin hK1263 (fun _ _ h => h) ?_
      refine WC.condF rfl rfl ?_
      refine WC.seq fun K1266 hK1266 => ?_
      -- region 21
      refine WC.region ?_
      -- R21.0 181 := more.go:78 binOp
      refine WL.v (by first | exact r_eql rfl rfl (decide_eq_true (by omega)) | exact r_eql rfl rfl (decide_eq_false (by omega)) | exact r_eql rfl rfl rfl) rfl rfl rfl ?_
      -- R21.1 180 := more.go:78 assign
      refine WL.v (by first | exact r_assign (v := .bool _) rfl | exact r_assign rfl) rfl rfl rfl ?_
      refine WL.fin hK1266 (fun _ _ h => h) ?_
      refine WC.condF rfl rfl ?_
      refine WC.skipJ hKC (fun _ _ h => h) () (by rw [hcs]; exact st) (by repeat (first | exact sub_nil _ | refine sub_cons rfl rfl ?_))
  clear st
  rintro _ w st
  refine WC.seq fun K1267 hK1267 => ?_
  -- region 23 (draws)
  refine WC.quietS st ty_mixed (by kernel_rfl) fun Kq hKq => ?_
  -- R23.0 185 := more.go:81 fieldAddr
  refine QL.v (fun w st => by exact r_field ty_fld36_3 rfl) rfl rfl rfl ?_
  -- R23.1 186 := more.go:81 fieldAddr
  refine QL.v (fun w st => by exact r_field ty_fld34_0 rfl) rfl rfl rfl ?_
  -- R23.2 187 := more.go:81 load
  refine QL.v (fun w st => by exact r_load1 (v := .int .i64 code) ty_one30 rfl (by rw [← f7]; exact st.c1 (by decide))) rfl rfl rfl ?_
  -- R23.3 188 := more.go:81 binOp
  refine QL.v (fun w st => by exact r_neq rfl rfl (decide_eq_true q22)) rfl rfl rfl ?_
  -- R23.4 189 := more.go:81 move
  refine QL.v (fun w st => by first | exact r_move (v := .bool _) rfl | exact r_move rfl) rfl rfl rfl ?_
  -- R23.5 190 := more.go:81 fieldAddr
  refine QL.v (fun w st => by exact r_field ty_fld36_2 rfl) rfl rfl rfl ?_
  -- R23.6 191 := more.go:81 load
  refine QL.v (fun w st => by exact r_load1 (v := .pointer (some ⟨bA, 0, none⟩)) ty_one29 rfl (by rw [← f6]; exact st.c1 (by decide))) rfl rfl rfl ?_
  -- R23.7 192 := more.go:81 nilCheck
  refine QL.v (fun w st => by exact r_nilCheck rfl) rfl rfl rfl ?_
  -- R23.8 193 := more.go:81 fieldAddr
  refine QL.v (fun w st => by exact r_field ty_fld50_5 rfl) rfl rfl rfl ?_
  -- R23.9 194 := more.go:81 load
  refine QL.v (fun w st => by exact r_loadN (f := hM s'.claim) ty_agg45 rfl (fun k hk => c_s (hck2 _ _).A (by omega) (by rw [show 0 + 419 + k = 419 + k by omega]; exact sF_c hk) st)) rfl rfl rfl ?_
  -- R23.10 195 := more.go:81 load
  refine QL.v (fun w st => by exact r_loadN (f := hM s'.claim) ty_agg45 rfl (fun k hk => by rw [Nat.zero_add]; exact st.c0 hk)) rfl rfl rfl ?_
  -- R23.11 196 := more.go:81 binOp
  refine QL.v (fun w st => by exact r_aeql (n := 320) (F := hM s'.claim) (G := hM s'.claim) (t := true) eqHA List.length_replicate rfl rfl hM_fit ⟨fun _ _ _ => rfl, fun _ => rfl⟩) rfl rfl rfl ?_
  -- R23.12 197 := more.go:81 pick
  refine QL.v (fun w st => by first | exact r_pickT (v := .bool _) rfl rfl | exact r_pickF (v := .bool _) rfl rfl) rfl rfl rfl ?_
  -- R23.13 2 := more.go:81 assign
  refine QL.v (fun w st => by first | exact r_assign (v := .bool _) rfl | exact r_assign rfl) rfl rfl rfl ?_
  refine QL.wl hKq fun w st => ?_
  refine WL.fin hK1267 (fun _ _ h => h) ?_
  refine WC.ret1 Tryz.results65 (fun _ _ h => h) rfl ?_
  exact ⟨_, rfl, rfl, st.drop.drop⟩
theorem claims_ok_law (a : Option Addr) (sb so n c : Nat) (op : Nat → Kern.Op) (hD : gD w) (hS : Scr w sb so n op) (hn63 : n ≤ 140737488355328) (ha : 0 < n → a = some ⟨sb, so, none⟩) :
    Calls Tryz.prog 22 #[.slice a n c] w (Ret fun v w' => v = .bool true ∧ S0 w [] w') := by
  have st : S0 w [] w := St.init w _
  by_cases hn : n ≤ 65536
  · have hC : CheckOK w 65 #[] op n fun _ LI => LI = [] := by
      refine check_pure fun i hi bB bA qv qv' ov l w' hck st' => ?_
      have hK := run_KI op i
      have hI := run_INV op i
      refine claims1_ok (s := runP op i) (s' := runP op (i + 1)) (fun h => ?_) (fun h2 hf hb => ?_) (fun hk hf hb h14 h15 => acq_claim hk hf hb h14 h15) (fun h9 hf => (exit_claim h9 hf).1) (fun h2 h9 => claim_same hK.b hI h9 (.inl h2)) codes_of.2.2.2.1 (fun t r => ⟨hK.b.claim t r, hK.b.held t r⟩) hck st'
      · have := nf_code (s := runP op i) (o := op i) h
        exact ⟨this.1, this.2, fun h9 => claim_same hK.b hI h9 (.inr h)⟩
      · obtain ⟨d1, d2, d3⟩ := dec_claim (s := runP op i) (o := op i) h2 hf hb
        exact ⟨fun h => ⟨(d1 h).1, after_id (d1 h).2 hK.told⟩, fun h hh => ⟨(d2 h hh).1, after_id (d2 h hh).2 hK.told⟩, d3⟩
    refine enter [.slice a n c] Tryz.func22 rfl Tryz.ntmps22 rfl ?_
    show WC _ _ _ 8 [] [(0, .slice a n c)] _
    refine WC.seq fun K1268 hK1268 => ?_
    -- region 0
    refine WC.region ?_
    -- R0.0 2 := more.go:50 assign
    refine WL.v (by first | exact r_assign (v := .bool _) rfl | exact r_assign rfl) rfl rfl rfl ?_
    refine WL.fin hK1268 (fun _ _ h => h) ?_
    refine WC.seq fun K1269 hK1269 => ?_
    refine WC.seq fun K1270 hK1270 => ?_
    -- region 1
    refine WC.region ?_
    -- R1.0 3 := more.go:51 move
    refine WL.v (by first | exact r_move (v := .slice _ _ _) rfl | exact r_move rfl) rfl rfl rfl ?_
    -- R1.1 4 := more.go:51 call
    refine WL.call (r_call ty_call23 rfl) rfl rfl rfl (zzSmall1_ok a n c st) ?_
    rintro _ w' ⟨he, st⟩
    rw [decide_eq_true hn] at he
    subst he
    -- R1.2 5 := more.go:51 unOp
    refine WL.v (by first | exact r_notT rfl | exact r_notF rfl | exact r_not rfl) rfl rfl rfl ?_
    refine WL.fin hK1270 (fun _ _ h => h) ?_
    refine WC.condF rfl rfl ?_
    refine WC.skipF hK1269 (fun _ _ h => h) ?_
    refine WC.seq fun K1271 hK1271 => ?_
    -- region 3
    refine WC.region ?_
    -- R3.0 6 := more.go:55 move
    refine WL.v (by first | exact r_move (v := .slice _ _ _) rfl | exact r_move rfl) rfl rfl rfl ?_
    -- R3.1 7 := more.go:55 call
    refine WL.call (r_call ty_call24 rfl) rfl rfl rfl (play_ok (LI := []) (l := []) ty_call65 hD hS hn ha hC rfl st) ?_
    rintro _ w'' ⟨rfl, LI', rfl, st⟩
    -- R3.2 2 := more.go:55 assign
    refine WL.v (by first | exact r_assign (v := .bool _) rfl | exact r_assign rfl) rfl rfl rfl ?_
    refine WL.fin hK1271 (fun _ _ h => h) ?_
    refine WC.ret1 Tryz.results22 (fun _ _ h => h) rfl ?_
    exact ⟨_, rfl, rfl, st⟩
  · skip
    refine enter [.slice a n c] Tryz.func22 rfl Tryz.ntmps22 rfl ?_
    show WC _ _ _ 8 [] [(0, .slice a n c)] _
    refine WC.seq fun K1272 hK1272 => ?_
    -- region 0
    refine WC.region ?_
    -- R0.0 2 := more.go:50 assign
    refine WL.v (by first | exact r_assign (v := .bool _) rfl | exact r_assign rfl) rfl rfl rfl ?_
    refine WL.fin hK1272 (fun _ _ h => h) ?_
    refine WC.seq fun K1273 hK1273 => ?_
    refine WC.seq fun K1274 hK1274 => ?_
    -- region 1
    refine WC.region ?_
    -- R1.0 3 := more.go:51 move
    refine WL.v (by first | exact r_move (v := .slice _ _ _) rfl | exact r_move rfl) rfl rfl rfl ?_
    -- R1.1 4 := more.go:51 call
    refine WL.call (r_call ty_call23 rfl) rfl rfl rfl (zzSmall1_ok a n c st) ?_
    rintro _ w' ⟨he, st⟩
    rw [decide_eq_false hn] at he
    subst he
    -- R1.2 5 := more.go:51 unOp
    refine WL.v (by first | exact r_notT rfl | exact r_notF rfl | exact r_not rfl) rfl rfl rfl ?_
    refine WL.fin hK1274 (fun _ _ h => h) ?_
    refine WC.condT rfl rfl ?_
    refine WC.seq fun K1275 hK1275 => ?_
    -- region 2
    refine WC.region ?_
    -- R2.0 2 := more.go:52 assign
    refine WL.v (by first | exact r_assign (v := .bool _) rfl | exact r_assign rfl) rfl rfl rfl ?_
    refine WL.fin hK1275 (fun _ _ h => h) ?_
    refine WC.ret1 Tryz.results22 (fun _ _ h => h) rfl ?_
    exact ⟨_, rfl, rfl, st⟩
end Go.Proofs.Qxb6500834aGreatDoor

