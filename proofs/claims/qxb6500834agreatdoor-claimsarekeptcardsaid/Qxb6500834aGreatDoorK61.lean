import Derived.Test.Qxb6500834aGreatDoorK60
import Derived.Test.Qxb6500834aGreatDoorE34
set_option linter.unusedVariables false
set_option linter.unusedSimpArgs false
set_option maxRecDepth 20000
namespace Go.Proofs.Qxb6500834aGreatDoor
open Go.RowKit Go.E1 Go.Kern
theorem ty_agg36 : aggT Tryz.prog 36 = some 10 := by kernel_rfl
theorem ty_bool4 : Program.underlying Tryz.prog 4 = some .bool := by kernel_rfl
theorem ty_call33 : callT Tryz.prog 33 = true := by kernel_rfl
theorem ty_call45 : callT Tryz.prog 45 = true := by kernel_rfl
theorem ty_call65 : callT Tryz.prog 65 = true := by kernel_rfl
variable {w0 : World} {l X : List HI} {w : World} {s s' s0 : KS} {t r N n : Nat} {qv qv' : Nat → Value}

/-! Law: claims are kept. -/
theorem hM_setC {h : Nat → Nat → Nat} {t r x : Nat} (ht : t < 16) (hr : r < 20) : ∀ k, k < 320 → upd (hM h) (0 + t * 20 + r * 1) (.int .i64 (x : Nat)) k = hM (upd2 h t r x) k := fun k hk => by
  rw [upd_eq]
  unfold hM upd2
  by_cases e : k = 0 + t * 20 + r * 1
  · rw [if_pos e, if_pos ⟨by omega, by omega⟩]
  · rw [if_neg e, if_neg (fun q => e (by omega))]
theorem hM_zap {h : Nat → Nat → Nat} {t : Nat} (ht : t < 16) : ∀ k, k < 320 → upds (hM h) (0 + t * 20) 20 (fun _ => .int .i64 0) k = hM (zapRow h t) k := fun k hk => by
  rw [upds_eq]
  unfold hM zapRow
  by_cases e : 0 + t * 20 ≤ k ∧ k < 0 + t * 20 + 20
  · rw [if_pos e, if_pos (by omega)]; rfl
  · rw [if_neg e, if_neg (by omega)]
set_option maxHeartbeats 4000000 in
theorem claims1_ok {o : Kern.Op} {bB bA : Nat} {code task : Int} {ov : Value} {ans : List (Nat × Nat × Nat)}  (hnf : cfB s o = false ∨ ¬ (0 ≤ o.B ∧ o.B < 20) → code ≠ 21 ∧ code ≠ 22 ∧ (o.kind ≠ 9 → s'.claim = s.claim)) (hd : o.kind = 2 → cfB s o = true → 0 ≤ o.B ∧ o.B < 20 → (¬ (0 ≤ o.C ∧ o.C < (totP o.B.toNat : Int) + 1) → code = 21 ∧ s' = s) ∧ (0 ≤ o.C ∧ o.C < (totP o.B.toNat : Int) + 1 → (¬ ∀ r, r < 20 → s.held o.A.toNat r = 0) → code = 22 ∧ s' = s) ∧ (0 ≤ o.C ∧ o.C < (totP o.B.toNat : Int) + 1 → (∀ r, r < 20 → s.held o.A.toNat r = 0) → code = 0 ∧ s'.claim = upd2 s.claim o.A.toNat o.B.toNat o.C.toNat)) (ha' : 3 ≤ o.kind ∧ o.kind ≤ 5 → cfB s o = true → 0 ≤ o.B ∧ o.B < 20 → code ≠ 14 → code ≠ 15 → ((s.mode = 3 ∧ (s.claim o.A.toNat o.B.toNat : Int) - s.held o.A.toNat o.B.toNat < o.C) ↔ code = 21)) (hx : o.kind = 9 → cfB s o = true → s'.claim = zapRow s.claim o.A.toNat) (hs : o.kind ≠ 2 → o.kind ≠ 9 → s'.claim = s.claim) (h22 : o.kind ≠ 2 → code ≠ 22) (hb16 : ∀ t r, s.claim t r ≤ 16 ∧ s.held t r ≤ 16) (hck : CK s s' ans bB bA qv qv' ov l) (st : S0 w0 l w) :
    Calls Tryz.prog 65 #[.agg (stepL o bB bA code task ov).toArray] w (Ret fun v w' => v = .bool true ∧ S0 w0 l w') := by
  obtain ⟨XO, ho, hXO⟩ := hck.a
  obtain ⟨a, c, b, rfl, hc1, hc2, ha, hcell⟩ := ho.form
  obtain ⟨fs, hfs⟩ : ∃ fs : Nat → Value, fs = nth (stepL o bB bA code task (.slice a ans.length c)) := ⟨_, rfl⟩
  have f0 : fs 0 = .int .u8 (o.kind : Nat) := by rw [hfs]; rfl
  have f1 : fs 1 = .int .i64 o.A := by rw [hfs]; rfl
  have f2 : fs 2 = .int .i64 o.B := by rw [hfs]; rfl
  have f3 : fs 3 = .int .i64 o.C := by rw [hfs]; rfl
  have f4 : fs 4 = .int .u64 (o.X : Nat) := by rw [hfs]; rfl
  have f5 : fs 5 = .pointer (some ⟨bB, 0, none⟩) := by rw [hfs]; rfl
  have f6 : fs 6 = .pointer (some ⟨bA, 0, none⟩) := by rw [hfs]; rfl
  have f7 : fs 7 = .int .i64 code := by rw [hfs]; rfl
  have f8 : fs 8 = .int .i64 task := by rw [hfs]; rfl
  have f9 : fs 9 = .slice a ans.length c := by rw [hfs]; rfl
  have hck1 := fun a => hck.c (a := a)
  have hck2 := fun a b => (hck.c (a := a)).c (a := b)
  rcases hF : cfB s o with _ | _
  · skip
    obtain ⟨q21, q22, hcs0⟩ := hnf (.inl hF)
    by_cases hk9 : o.kind = 9
    · skip
      refine enter [.agg (stepL o bB bA code task (.slice a ans.length c)).toArray] Tryz.func65 rfl Tryz.ntmps65 rfl ?_
      show WC _ _ _ 198 [] [(0, .agg (stepL o bB bA code task (.slice a ans.length c)).toArray)] _
      refine WC.seq fun K2128 hK2128 => ?_
      -- region 0
      refine WC.region ?_
      -- R0.0 1 := more.go:55 box
      refine WL.box (m := 10) (vs := stepL o bB bA code task (.slice a ans.length c)) st rfl rfl rfl rfl rfl rfl ?_
      intro b1 w st
      have st : S0 w0 ((b1, Row 36 10 fs) :: l) w := by rw [hfs]; exact st
      -- R0.1 2 := more.go:55 assign
      refine WL.v (by first | exact r_assign (v := .bool _) rfl | exact r_assign rfl) rfl rfl rfl ?_
      refine WL.fin hK2128 (fun _ _ h => h) ?_
      refine WC.seq fun K2129 hK2129 => ?_
      -- region 1
      refine WC.region ?_
      -- R1.0 10 := more.go:56 load
      refine WL.v (by exact r_loadL (vs := stepL o bB bA code task (.slice a ans.length c)) ty_agg36 rfl ⟨(st.c0 (by decide)).trans (congrArg some f0), (st.c0 (by decide)).trans (congrArg some f1), (st.c0 (by decide)).trans (congrArg some f2), (st.c0 (by decide)).trans (congrArg some f3), (st.c0 (by decide)).trans (congrArg some f4), (st.c0 (by decide)).trans (congrArg some f5), (st.c0 (by decide)).trans (congrArg some f6), (st.c0 (by decide)).trans (congrArg some f7), (st.c0 (by decide)).trans (congrArg some f8), (st.c0 (by decide)).trans (congrArg some f9), trivial⟩) rfl rfl rfl ?_
      -- R1.1 11 := more.go:56 call
      refine WL.call (r_call ty_call33 rfl) rfl rfl rfl (callerL_ok (o := o) (List.mem_cons_of_mem _ hck.B) rfl st) ?_
      rintro _ w ⟨rfl, st⟩
      -- R1.2 9 := more.go:56 move
      refine WL.v (by first | exact r_move (v := .tuple _) rfl | exact r_move rfl) rfl rfl rfl ?_
      -- R1.3 12 := more.go:56 extract
      refine WL.v (by first | exact r_extract (v := .int _ _) rfl rfl | exact r_extract rfl rfl) rfl rfl rfl ?_
      -- R1.4 13 := more.go:56 extract
      refine WL.v (by first | exact r_extract (v := .bool _) rfl rfl | exact r_extract rfl rfl) rfl rfl rfl ?_
      -- R1.5 3 := more.go:56 assign
      refine WL.v (by first | exact r_assign (v := .int _ _) rfl | exact r_assign rfl) rfl rfl rfl ?_
      -- R1.6 4 := more.go:56 assign
      refine WL.v (by first | exact r_assign (v := .bool _) rfl | exact r_assign rfl) rfl rfl rfl ?_
      refine WL.fin hK2129 (fun _ _ h => h) ?_
      refine WC.seq fun K2130 hK2130 => ?_
      refine WC.seq fun K2131 hK2131 => ?_
      -- region 2
      refine WC.region ?_
      -- R2.0 14 := more.go:57 move
      refine WL.v (by exact r_move (v := .bool false) (congrArg Value.bool hF)) rfl rfl rfl ?_
      -- R2.1 15 := more.go:57 unOp
      refine WL.v (by first | exact r_notT rfl | exact r_notF rfl | exact r_not rfl) rfl rfl rfl ?_
      -- R2.2 16 := more.go:57 move
      refine WL.v (by first | exact r_move (v := .bool _) rfl | exact r_move rfl) rfl rfl rfl ?_
      -- R2.3 17 := more.go:57 fieldAddr
      refine WL.no rfl rfl ?_
      -- R2.4 18 := more.go:57 fieldAddr
      refine WL.no rfl rfl ?_
      -- R2.5 19 := more.go:57 load
      refine WL.no rfl rfl ?_
      -- R2.6 20 := more.go:57 call
      refine WL.no rfl rfl ?_
      -- R2.7 21 := more.go:57 unOp
      refine WL.no rfl rfl ?_
      -- R2.8 22 := more.go:57 pick
      refine WL.v (by first | exact r_pickT (v := .bool _) rfl rfl | exact r_pickF (v := .bool _) rfl rfl) rfl rfl rfl ?_
      refine WL.fin hK2131 (fun _ _ h => h) ?_
      refine WC.condT rfl rfl ?_
      refine WC.seq fun K2132 hK2132 => ?_
      -- region 3 (draws)
      refine WC.quietS st ty_mixed (by kernel_rfl) fun Kq hKq => ?_
      -- R3.0 23 := more.go:58 fieldAddr
      refine QL.v (fun w st => by exact r_field ty_fld36_3 rfl) rfl rfl rfl ?_
      -- R3.1 24 := more.go:58 fieldAddr
      refine QL.v (fun w st => by exact r_field ty_fld34_0 rfl) rfl rfl rfl ?_
      -- R3.2 25 := more.go:58 load
      refine QL.v (fun w st => by exact r_load1 (v := .int .i64 code) ty_one30 rfl (by rw [← f7]; exact st.c0 (by decide))) rfl rfl rfl ?_
      -- R3.3 26 := more.go:58 binOp
      refine QL.v (fun w st => by exact r_neq rfl rfl (decide_eq_true q21)) rfl rfl rfl ?_
      -- R3.4 27 := more.go:58 move
      refine QL.v (fun w st => by first | exact r_move (v := .bool _) rfl | exact r_move rfl) rfl rfl rfl ?_
      -- R3.5 28 := more.go:58 fieldAddr
      refine QL.v (fun w st => by exact r_field ty_fld36_3 rfl) rfl rfl rfl ?_
      -- R3.6 29 := more.go:58 fieldAddr
      refine QL.v (fun w st => by exact r_field ty_fld34_0 rfl) rfl rfl rfl ?_
      -- R3.7 30 := more.go:58 load
      refine QL.v (fun w st => by exact r_load1 (v := .int .i64 code) ty_one30 rfl (by rw [← f7]; exact st.c0 (by decide))) rfl rfl rfl ?_
      -- R3.8 31 := more.go:58 binOp
      refine QL.v (fun w st => by exact r_neq rfl rfl (decide_eq_true q22)) rfl rfl rfl ?_
      -- R3.9 32 := more.go:58 pick
      refine QL.v (fun w st => by first | exact r_pickT (v := .bool _) rfl rfl | exact r_pickF (v := .bool _) rfl rfl) rfl rfl rfl ?_
      -- R3.10 33 := more.go:58 move
      refine QL.v (fun w st => by first | exact r_move (v := .bool _) rfl | exact r_move rfl) rfl rfl rfl ?_
      -- R3.11 34 := more.go:58 fieldAddr
      refine QL.v (fun w st => by exact r_field ty_fld36_0 rfl) rfl rfl rfl ?_
      -- R3.12 35 := more.go:58 fieldAddr
      refine QL.v (fun w st => by exact r_field ty_fld28_0 rfl) rfl rfl rfl ?_
      -- R3.13 36 := more.go:58 load
      refine QL.v (fun w st => by exact r_load1 (v := .int .u8 (o.kind : Nat)) ty_one25 rfl (by rw [← f0]; exact st.c0 (by decide))) rfl rfl rfl ?_
      -- R3.14 37 := more.go:58 binOp
      refine QL.v (fun w st => by first | exact r_eql rfl rfl (decide_eq_true (by omega)) | exact r_eql rfl rfl (decide_eq_false (by omega)) | exact r_eql rfl rfl rfl) rfl rfl rfl ?_
      -- R3.15 38 := more.go:58 move
      refine QL.v (fun w st => by first | exact r_move (v := .bool _) rfl | exact r_move rfl) rfl rfl rfl ?_
      -- R3.16 39 := more.go:58 fieldAddr
      refine QL.no rfl rfl ?_
      -- R3.17 40 := more.go:58 load
      refine QL.no rfl rfl ?_
      -- R3.18 41 := more.go:58 nilCheck
      refine QL.no rfl rfl ?_
      -- R3.19 42 := more.go:58 fieldAddr
      refine QL.no rfl rfl ?_
      -- R3.20 43 := more.go:58 load
      refine QL.no rfl rfl ?_
      -- R3.21 44 := more.go:58 fieldAddr
      refine QL.no rfl rfl ?_
      -- R3.22 45 := more.go:58 load
      refine QL.no rfl rfl ?_
      -- R3.23 46 := more.go:58 nilCheck
      refine QL.no rfl rfl ?_
      -- R3.24 47 := more.go:58 fieldAddr
      refine QL.no rfl rfl ?_
      -- R3.25 48 := more.go:58 load
      refine QL.no rfl rfl ?_
      -- R3.26 49 := more.go:58 binOp
      refine QL.no rfl rfl ?_
      -- R3.27 50 := more.go:58 pick
      refine QL.v (fun w st => by first | exact r_pickT (v := .bool _) rfl rfl | exact r_pickF (v := .bool _) rfl rfl) rfl rfl rfl ?_
      -- R3.28 51 := more.go:58 pick
      refine QL.v (fun w st => by first | exact r_pickT (v := .bool _) rfl rfl | exact r_pickF (v := .bool _) rfl rfl) rfl rfl rfl ?_
      -- R3.29 2 := more.go:58 assign
      refine QL.v (fun w st => by first | exact r_assign (v := .bool _) rfl | exact r_assign rfl) rfl rfl rfl ?_
      refine QL.wl hKq fun w st => ?_
      refine WL.fin hK2132 (fun _ _ h => h) ?_
      refine WC.ret1 Tryz.results65 (fun _ _ h => h) rfl ?_
      exact ⟨_, rfl, rfl, st.drop⟩
    · have hcs := hcs0 hk9
      refine enter [.agg (stepL o bB bA code task (.slice a ans.length c)).toArray] Tryz.func65 rfl Tryz.ntmps65 rfl ?_
      show WC _ _ _ 198 [] [(0, .agg (stepL o bB bA code task (.slice a ans.length c)).toArray)] _
      refine WC.seq fun K2133 hK2133 => ?_
      -- region 0
      refine WC.region ?_
      -- R0.0 1 := more.go:55 box
      refine WL.box (m := 10) (vs := stepL o bB bA code task (.slice a ans.length c)) st rfl rfl rfl rfl rfl rfl ?_
      intro b1 w st
      have st : S0 w0 ((b1, Row 36 10 fs) :: l) w := by rw [hfs]; exact st
      -- R0.1 2 := more.go:55 assign
      refine WL.v (by first | exact r_assign (v := .bool _) rfl | exact r_assign rfl) rfl rfl rfl ?_
      refine WL.fin hK2133 (fun _ _ h => h) ?_
      refine WC.seq fun K2134 hK2134 => ?_
      -- region 1
      refine WC.region ?_
      -- R1.0 10 := more.go:56 load
      refine WL.v (by exact r_loadL (vs := stepL o bB bA code task (.slice a ans.length c)) ty_agg36 rfl ⟨(st.c0 (by decide)).trans (congrArg some f0), (st.c0 (by decide)).trans (congrArg some f1), (st.c0 (by decide)).trans (congrArg some f2), (st.c0 (by decide)).trans (congrArg some f3), (st.c0 (by decide)).trans (congrArg some f4), (st.c0 (by decide)).trans (congrArg some f5), (st.c0 (by decide)).trans (congrArg some f6), (st.c0 (by decide)).trans (congrArg some f7), (st.c0 (by decide)).trans (congrArg some f8), (st.c0 (by decide)).trans (congrArg some f9), trivial⟩) rfl rfl rfl ?_
      -- R1.1 11 := more.go:56 call
      refine WL.call (r_call ty_call33 rfl) rfl rfl rfl (callerL_ok (o := o) (List.mem_cons_of_mem _ hck.B) rfl st) ?_
      rintro _ w ⟨rfl, st⟩
      -- R1.2 9 := more.go:56 move
      refine WL.v (by first | exact r_move (v := .tuple _) rfl | exact r_move rfl) rfl rfl rfl ?_
      -- R1.3 12 := more.go:56 extract
      refine WL.v (by first | exact r_extract (v := .int _ _) rfl rfl | exact r_extract rfl rfl) rfl rfl rfl ?_
      -- R1.4 13 := more.go:56 extract
      refine WL.v (by first | exact r_extract (v := .bool _) rfl rfl | exact r_extract rfl rfl) rfl rfl rfl ?_
      -- R1.5 3 := more.go:56 assign
      refine WL.v (by first | exact r_assign (v := .int _ _) rfl | exact r_assign rfl) rfl rfl rfl ?_
      -- R1.6 4 := more.go:56 assign
      refine WL.v (by first | exact r_assign (v := .bool _) rfl | exact r_assign rfl) rfl rfl rfl ?_
      refine WL.fin hK2134 (fun _ _ h => h) ?_
      refine WC.seq fun K2135 hK2135 => ?_
      refine WC.seq fun K2136 hK2136 => ?_
      -- region 2
      refine WC.region ?_
      -- R2.0 14 := more.go:57 move
      refine WL.v (by exact r_move (v := .bool false) (congrArg Value.bool hF)) rfl rfl rfl ?_
      -- R2.1 15 := more.go:57 unOp
      refine WL.v (by first | exact r_notT rfl | exact r_notF rfl | exact r_not rfl) rfl rfl rfl ?_
      -- R2.2 16 := more.go:57 move
      refine WL.v (by first | exact r_move (v := .bool _) rfl | exact r_move rfl) rfl rfl rfl ?_
      -- R2.3 17 := more.go:57 fieldAddr
      refine WL.no rfl rfl ?_
      -- R2.4 18 := more.go:57 fieldAddr
      refine WL.no rfl rfl ?_
      -- R2.5 19 := more.go:57 load
      refine WL.no rfl rfl ?_
      -- R2.6 20 := more.go:57 call
      refine WL.no rfl rfl ?_
      -- R2.7 21 := more.go:57 unOp
      refine WL.no rfl rfl ?_
      -- R2.8 22 := more.go:57 pick
      refine WL.v (by first | exact r_pickT (v := .bool _) rfl rfl | exact r_pickF (v := .bool _) rfl rfl) rfl rfl rfl ?_
      refine WL.fin hK2136 (fun _ _ h => h) ?_
      refine WC.condT rfl rfl ?_
      refine WC.seq fun K2137 hK2137 => ?_
      -- region 3 (draws)
      refine WC.quietS st ty_mixed (by kernel_rfl) fun Kq hKq => ?_
      -- R3.0 23 := more.go:58 fieldAddr
      refine QL.v (fun w st => by exact r_field ty_fld36_3 rfl) rfl rfl rfl ?_
      -- R3.1 24 := more.go:58 fieldAddr
      refine QL.v (fun w st => by exact r_field ty_fld34_0 rfl) rfl rfl rfl ?_
      -- R3.2 25 := more.go:58 load
      refine QL.v (fun w st => by exact r_load1 (v := .int .i64 code) ty_one30 rfl (by rw [← f7]; exact st.c0 (by decide))) rfl rfl rfl ?_
      -- R3.3 26 := more.go:58 binOp
      refine QL.v (fun w st => by exact r_neq rfl rfl (decide_eq_true q21)) rfl rfl rfl ?_
      -- R3.4 27 := more.go:58 move
      refine QL.v (fun w st => by first | exact r_move (v := .bool _) rfl | exact r_move rfl) rfl rfl rfl ?_
      -- R3.5 28 := more.go:58 fieldAddr
      refine QL.v (fun w st => by exact r_field ty_fld36_3 rfl) rfl rfl rfl ?_
      -- R3.6 29 := more.go:58 fieldAddr
      refine QL.v (fun w st => by exact r_field ty_fld34_0 rfl) rfl rfl rfl ?_
      -- R3.7 30 := more.go:58 load
      refine QL.v (fun w st => by exact r_load1 (v := .int .i64 code) ty_one30 rfl (by rw [← f7]; exact st.c0 (by decide))) rfl rfl rfl ?_
      -- R3.8 31 := more.go:58 binOp
      refine QL.v (fun w st => by exact r_neq rfl rfl (decide_eq_true q22)) rfl rfl rfl ?_
      -- R3.9 32 := more.go:58 pick
      refine QL.v (fun w st => by first | exact r_pickT (v := .bool _) rfl rfl | exact r_pickF (v := .bool _) rfl rfl) rfl rfl rfl ?_
      -- R3.10 33 := more.go:58 move
      refine QL.v (fun w st => by first | exact r_move (v := .bool _) rfl | exact r_move rfl) rfl rfl rfl ?_
      -- R3.11 34 := more.go:58 fieldAddr
      refine QL.v (fun w st => by exact r_field ty_fld36_0 rfl) rfl rfl rfl ?_
      -- R3.12 35 := more.go:58 fieldAddr
      refine QL.v (fun w st => by exact r_field ty_fld28_0 rfl) rfl rfl rfl ?_
      -- R3.13 36 := more.go:58 load
      refine QL.v (fun w st => by exact r_load1 (v := .int .u8 (o.kind : Nat)) ty_one25 rfl (by rw [← f0]; exact st.c0 (by decide))) rfl rfl rfl ?_
      -- R3.14 37 := more.go:58 binOp
      refine QL.v (fun w st => by first | exact r_eql rfl rfl (decide_eq_true (by omega)) | exact r_eql rfl rfl (decide_eq_false (by omega)) | exact r_eql rfl rfl rfl) rfl rfl rfl ?_
      -- R3.15 38 := more.go:58 move
      refine QL.v (fun w st => by first | exact r_move (v := .bool _) rfl | exact r_move rfl) rfl rfl rfl ?_
      -- R3.16 39 := more.go:58 fieldAddr
      refine QL.v (fun w st => by exact r_field ty_fld36_2 rfl) rfl rfl rfl ?_
      -- R3.17 40 := more.go:58 load
      refine QL.v (fun w st => by exact r_load1 (v := .pointer (some ⟨bA, 0, none⟩)) ty_one29 rfl (by rw [← f6]; exact st.c0 (by decide))) rfl rfl rfl ?_
      -- R3.18 41 := more.go:58 nilCheck
      refine QL.v (fun w st => by exact r_nilCheck rfl) rfl rfl rfl ?_
      -- R3.19 42 := more.go:58 fieldAddr
      refine QL.v (fun w st => by exact r_field ty_fld50_5 rfl) rfl rfl rfl ?_
      -- R3.20 43 := more.go:58 load
      refine QL.v (fun w st => by exact r_loadN (f := hM s'.claim) ty_agg45 rfl (fun k hk => c_s (hck1 _).A (by omega) (by rw [show 0 + 419 + k = 419 + k by omega]; exact sF_c hk) st)) rfl rfl rfl ?_
      -- R3.21 44 := more.go:58 fieldAddr
      refine QL.v (fun w st => by exact r_field ty_fld36_1 rfl) rfl rfl rfl ?_
      -- R3.22 45 := more.go:58 load
      refine QL.v (fun w st => by exact r_load1 (v := .pointer (some ⟨bB, 0, none⟩)) ty_one29 rfl (by rw [← f5]; exact st.c0 (by decide))) rfl rfl rfl ?_
      -- R3.23 46 := more.go:58 nilCheck
      refine QL.v (fun w st => by exact r_nilCheck rfl) rfl rfl rfl ?_
      -- R3.24 47 := more.go:58 fieldAddr
      refine QL.v (fun w st => by exact r_field ty_fld50_5 rfl) rfl rfl rfl ?_
      -- R3.25 48 := more.go:58 load
      refine QL.v (fun w st => by exact r_loadN (f := hM s.claim) ty_agg45 rfl (fun k hk => c_s (hck1 _).B (by omega) (by rw [show 0 + 419 + k = 419 + k by omega]; exact sF_c hk) st)) rfl rfl rfl ?_
      -- R3.26 49 := more.go:58 binOp
      refine QL.v (fun w st => by exact r_aeql (n := 320) (F := hM s'.claim) (G := hM s.claim) (t := true) eqHA List.length_replicate rfl rfl hM_fit ⟨fun _ i hi => by rw [hcs], fun _ => rfl⟩) rfl rfl rfl ?_
      -- R3.27 50 := more.go:58 pick
      refine QL.v (fun w st => by first | exact r_pickT (v := .bool _) rfl rfl | exact r_pickF (v := .bool _) rfl rfl) rfl rfl rfl ?_
      -- R3.28 51 := more.go:58 pick
      refine QL.v (fun w st => by first | exact r_pickT (v := .bool _) rfl rfl | exact r_pickF (v := .bool _) rfl rfl) rfl rfl rfl ?_
      -- R3.29 2 := more.go:58 assign
      refine QL.v (fun w st => by first | exact r_assign (v := .bool _) rfl | exact r_assign rfl) rfl rfl rfl ?_
      refine QL.wl hKq fun w st => ?_
      refine WL.fin hK2137 (fun _ _ h => h) ?_
      refine WC.ret1 Tryz.results65 (fun _ _ h => h) rfl ?_
      exact ⟨_, rfl, rfl, st.drop⟩
  by_cases hb : 0 ≤ o.B ∧ o.B < 20
  rotate_left
  · skip

    obtain ⟨q21, q22, hcs0⟩ := hnf (.inr hb)
    by_cases hk9 : o.kind = 9
    · skip
      refine enter [.agg (stepL o bB bA code task (.slice a ans.length c)).toArray] Tryz.func65 rfl Tryz.ntmps65 rfl ?_
      show WC _ _ _ 198 [] [(0, .agg (stepL o bB bA code task (.slice a ans.length c)).toArray)] _
      refine WC.seq fun K2138 hK2138 => ?_
      -- region 0
      refine WC.region ?_
      -- R0.0 1 := more.go:55 box
      refine WL.box (m := 10) (vs := stepL o bB bA code task (.slice a ans.length c)) st rfl rfl rfl rfl rfl rfl ?_
      intro b1 w st
      have st : S0 w0 ((b1, Row 36 10 fs) :: l) w := by rw [hfs]; exact st
      -- R0.1 2 := more.go:55 assign
      refine WL.v (by first | exact r_assign (v := .bool _) rfl | exact r_assign rfl) rfl rfl rfl ?_
      refine WL.fin hK2138 (fun _ _ h => h) ?_
      refine WC.seq fun K2139 hK2139 => ?_
      -- region 1
      refine WC.region ?_
      -- R1.0 10 := more.go:56 load
      refine WL.v (by exact r_loadL (vs := stepL o bB bA code task (.slice a ans.length c)) ty_agg36 rfl ⟨(st.c0 (by decide)).trans (congrArg some f0), (st.c0 (by decide)).trans (congrArg some f1), (st.c0 (by decide)).trans (congrArg some f2), (st.c0 (by decide)).trans (congrArg some f3), (st.c0 (by decide)).trans (congrArg some f4), (st.c0 (by decide)).trans (congrArg some f5), (st.c0 (by decide)).trans (congrArg some f6), (st.c0 (by decide)).trans (congrArg some f7), (st.c0 (by decide)).trans (congrArg some f8), (st.c0 (by decide)).trans (congrArg some f9), trivial⟩) rfl rfl rfl ?_
      -- R1.1 11 := more.go:56 call
      refine WL.call (r_call ty_call33 rfl) rfl rfl rfl (callerL_ok (o := o) (List.mem_cons_of_mem _ hck.B) rfl st) ?_
      rintro _ w ⟨rfl, st⟩
      -- R1.2 9 := more.go:56 move
      refine WL.v (by first | exact r_move (v := .tuple _) rfl | exact r_move rfl) rfl rfl rfl ?_
      -- R1.3 12 := more.go:56 extract
      refine WL.v (by first | exact r_extract (v := .int _ _) rfl rfl | exact r_extract rfl rfl) rfl rfl rfl ?_
      -- R1.4 13 := more.go:56 extract
      refine WL.v (by first | exact r_extract (v := .bool _) rfl rfl | exact r_extract rfl rfl) rfl rfl rfl ?_
      -- R1.5 3 := more.go:56 assign
      refine WL.v (by first | exact r_assign (v := .int _ _) rfl | exact r_assign rfl) rfl rfl rfl ?_
      -- R1.6 4 := more.go:56 assign
      refine WL.v (by first | exact r_assign (v := .bool _) rfl | exact r_assign rfl) rfl rfl rfl ?_
      refine WL.fin hK2139 (fun _ _ h => h) ?_
      refine WC.seq fun K2140 hK2140 => ?_
      refine WC.seq fun K2141 hK2141 => ?_
      -- region 2
      refine WC.region ?_
      -- R2.0 14 := more.go:57 move
      refine WL.v (by exact r_move (v := .bool true) (congrArg Value.bool hF)) rfl rfl rfl ?_
      -- R2.1 15 := more.go:57 unOp
      refine WL.v (by first | exact r_notT rfl | exact r_notF rfl | exact r_not rfl) rfl rfl rfl ?_
      -- R2.2 16 := more.go:57 move
      refine WL.v (by first | exact r_move (v := .bool _) rfl | exact r_move rfl) rfl rfl rfl ?_
      -- R2.3 17 := more.go:57 fieldAddr
      refine WL.v (by exact r_field ty_fld36_0 rfl) rfl rfl rfl ?_
      -- R2.4 18 := more.go:57 fieldAddr
      refine WL.v (by exact r_field ty_fld28_2 rfl) rfl rfl rfl ?_
      -- R2.5 19 := more.go:57 load
      refine WL.v (by exact r_load1 (v := .int .i64 o.B) ty_one2 rfl (by rw [← f2]; exact st.c0 (by decide))) rfl rfl rfl ?_
      -- R2.6 20 := more.go:57 call
      refine WL.call (r_call ty_call34 rfl) rfl rfl rfl (within_ok (v := o.B) (n := 20) st) ?_
      rintro _ w ⟨he, st⟩
      have he : _ = Value.bool false := he.trans (by unfold wiP; rw [decide_eq_false hb])
      subst he
      -- R2.7 21 := more.go:57 unOp
      refine WL.v (by first | exact r_notT rfl | exact r_notF rfl | exact r_not rfl) rfl rfl rfl ?_
      -- R2.8 22 := more.go:57 pick
      refine WL.v (by first | exact r_pickT (v := .bool _) rfl rfl | exact r_pickF (v := .bool _) rfl rfl) rfl rfl rfl ?_
      refine WL.fin hK2141 (fun _ _ h => h) ?_
      refine WC.condT rfl rfl ?_
      refine WC.seq fun K2142 hK2142 => ?_
      -- region 3 (draws)
      refine WC.quietS st ty_mixed (by kernel_rfl) fun Kq hKq => ?_
      -- R3.0 23 := more.go:58 fieldAddr
      refine QL.v (fun w st => by exact r_field ty_fld36_3 rfl) rfl rfl rfl ?_
      -- R3.1 24 := more.go:58 fieldAddr
      refine QL.v (fun w st => by exact r_field ty_fld34_0 rfl) rfl rfl rfl ?_
      -- R3.2 25 := more.go:58 load
      refine QL.v (fun w st => by exact r_load1 (v := .int .i64 code) ty_one30 rfl (by rw [← f7]; exact st.c0 (by decide))) rfl rfl rfl ?_
      -- R3.3 26 := more.go:58 binOp
      refine QL.v (fun w st => by exact r_neq rfl rfl (decide_eq_true q21)) rfl rfl rfl ?_
      -- R3.4 27 := more.go:58 move
      refine QL.v (fun w st => by first | exact r_move (v := .bool _) rfl | exact r_move rfl) rfl rfl rfl ?_
      -- R3.5 28 := more.go:58 fieldAddr
      refine QL.v (fun w st => by exact r_field ty_fld36_3 rfl) rfl rfl rfl ?_
      -- R3.6 29 := more.go:58 fieldAddr
      refine QL.v (fun w st => by exact r_field ty_fld34_0 rfl) rfl rfl rfl ?_
      -- R3.7 30 := more.go:58 load
      refine QL.v (fun w st => by exact r_load1 (v := .int .i64 code) ty_one30 rfl (by rw [← f7]; exact st.c0 (by decide))) rfl rfl rfl ?_
      -- R3.8 31 := more.go:58 binOp
      refine QL.v (fun w st => by exact r_neq rfl rfl (decide_eq_true q22)) rfl rfl rfl ?_
      -- R3.9 32 := more.go:58 pick
      refine QL.v (fun w st => by first | exact r_pickT (v := .bool _) rfl rfl | exact r_pickF (v := .bool _) rfl rfl) rfl rfl rfl ?_
      -- R3.10 33 := more.go:58 move
      refine QL.v (fun w st => by first | exact r_move (v := .bool _) rfl | exact r_move rfl) rfl rfl rfl ?_
      -- R3.11 34 := more.go:58 fieldAddr
      refine QL.v (fun w st => by exact r_field ty_fld36_0 rfl) rfl rfl rfl ?_
      -- R3.12 35 := more.go:58 fieldAddr
      refine QL.v (fun w st => by exact r_field ty_fld28_0 rfl) rfl rfl rfl ?_
      -- R3.13 36 := more.go:58 load
      refine QL.v (fun w st => by exact r_load1 (v := .int .u8 (o.kind : Nat)) ty_one25 rfl (by rw [← f0]; exact st.c0 (by decide))) rfl rfl rfl ?_
      -- R3.14 37 := more.go:58 binOp
      refine QL.v (fun w st => by first | exact r_eql rfl rfl (decide_eq_true (by omega)) | exact r_eql rfl rfl (decide_eq_false (by omega)) | exact r_eql rfl rfl rfl) rfl rfl rfl ?_
      -- R3.15 38 := more.go:58 move
      refine QL.v (fun w st => by first | exact r_move (v := .bool _) rfl | exact r_move rfl) rfl rfl rfl ?_
      -- R3.16 39 := more.go:58 fieldAddr
      refine QL.no rfl rfl ?_
      -- R3.17 40 := more.go:58 load
      refine QL.no rfl rfl ?_
      -- R3.18 41 := more.go:58 nilCheck
      refine QL.no rfl rfl ?_
      -- R3.19 42 := more.go:58 fieldAddr
      refine QL.no rfl rfl ?_
      -- R3.20 43 := more.go:58 load
      refine QL.no rfl rfl ?_
      -- R3.21 44 := more.go:58 fieldAddr
      refine QL.no rfl rfl ?_
      -- R3.22 45 := more.go:58 load
      refine QL.no rfl rfl ?_
      -- R3.23 46 := more.go:58 nilCheck
      refine QL.no rfl rfl ?_
      -- R3.24 47 := more.go:58 fieldAddr
      refine QL.no rfl rfl ?_
      -- R3.25 48 := more.go:58 load
      refine QL.no rfl rfl ?_
      -- R3.26 49 := more.go:58 binOp
      refine QL.no rfl rfl ?_
      -- R3.27 50 := more.go:58 pick
      refine QL.v (fun w st => by first | exact r_pickT (v := .bool _) rfl rfl | exact r_pickF (v := .bool _) rfl rfl) rfl rfl rfl ?_
      -- R3.28 51 := more.go:58 pick
      refine QL.v (fun w st => by first | exact r_pickT (v := .bool _) rfl rfl | exact r_pickF (v := .bool _) rfl rfl) rfl rfl rfl ?_
      -- R3.29 2 := more.go:58 assign
      refine QL.v (fun w st => by first | exact r_assign (v := .bool _) rfl | exact r_assign rfl) rfl rfl rfl ?_
      refine QL.wl hKq fun w st => ?_
      refine WL.fin hK2142 (fun _ _ h => h) ?_
      refine WC.ret1 Tryz.results65 (fun _ _ h => h) rfl ?_
      exact ⟨_, rfl, rfl, st.drop⟩
    · have hcs := hcs0 hk9
      refine enter [.agg (stepL o bB bA code task (.slice a ans.length c)).toArray] Tryz.func65 rfl Tryz.ntmps65 rfl ?_
      show WC _ _ _ 198 [] [(0, .agg (stepL o bB bA code task (.slice a ans.length c)).toArray)] _
      refine WC.seq fun K2143 hK2143 => ?_
      -- region 0
      refine WC.region ?_
      -- R0.0 1 := more.go:55 box
      refine WL.box (m := 10) (vs := stepL o bB bA code task (.slice a ans.length c)) st rfl rfl rfl rfl rfl rfl ?_
      intro b1 w st
      have st : S0 w0 ((b1, Row 36 10 fs) :: l) w := by rw [hfs]; exact st
      -- R0.1 2 := more.go:55 assign
      refine WL.v (by first | exact r_assign (v := .bool _) rfl | exact r_assign rfl) rfl rfl rfl ?_
      refine WL.fin hK2143 (fun _ _ h => h) ?_
      refine WC.seq fun K2144 hK2144 => ?_
      -- region 1
      refine WC.region ?_
      -- R1.0 10 := more.go:56 load
      refine WL.v (by exact r_loadL (vs := stepL o bB bA code task (.slice a ans.length c)) ty_agg36 rfl ⟨(st.c0 (by decide)).trans (congrArg some f0), (st.c0 (by decide)).trans (congrArg some f1), (st.c0 (by decide)).trans (congrArg some f2), (st.c0 (by decide)).trans (congrArg some f3), (st.c0 (by decide)).trans (congrArg some f4), (st.c0 (by decide)).trans (congrArg some f5), (st.c0 (by decide)).trans (congrArg some f6), (st.c0 (by decide)).trans (congrArg some f7), (st.c0 (by decide)).trans (congrArg some f8), (st.c0 (by decide)).trans (congrArg some f9), trivial⟩) rfl rfl rfl ?_
      -- R1.1 11 := more.go:56 call
      refine WL.call (r_call ty_call33 rfl) rfl rfl rfl (callerL_ok (o := o) (List.mem_cons_of_mem _ hck.B) rfl st) ?_
      rintro _ w ⟨rfl, st⟩
      -- R1.2 9 := more.go:56 move
      refine WL.v (by first | exact r_move (v := .tuple _) rfl | exact r_move rfl) rfl rfl rfl ?_
      -- R1.3 12 := more.go:56 extract
      refine WL.v (by first | exact r_extract (v := .int _ _) rfl rfl | exact r_extract rfl rfl) rfl rfl rfl ?_
      -- R1.4 13 := more.go:56 extract
      refine WL.v (by first | exact r_extract (v := .bool _) rfl rfl | exact r_extract rfl rfl) rfl rfl rfl ?_
      -- R1.5 3 := more.go:56 assign
      refine WL.v (by first | exact r_assign (v := .int _ _) rfl | exact r_assign rfl) rfl rfl rfl ?_
      -- R1.6 4 := more.go:56 assign
      refine WL.v (by first | exact r_assign (v := .bool _) rfl | exact r_assign rfl) rfl rfl rfl ?_
      refine WL.fin hK2144 (fun _ _ h => h) ?_
      refine WC.seq fun K2145 hK2145 => ?_
      refine WC.seq fun K2146 hK2146 => ?_
      -- region 2
      refine WC.region ?_
      -- R2.0 14 := more.go:57 move
      refine WL.v (by exact r_move (v := .bool true) (congrArg Value.bool hF)) rfl rfl rfl ?_
      -- R2.1 15 := more.go:57 unOp
      refine WL.v (by first | exact r_notT rfl | exact r_notF rfl | exact r_not rfl) rfl rfl rfl ?_
      -- R2.2 16 := more.go:57 move
      refine WL.v (by first | exact r_move (v := .bool _) rfl | exact r_move rfl) rfl rfl rfl ?_
      -- R2.3 17 := more.go:57 fieldAddr
      refine WL.v (by exact r_field ty_fld36_0 rfl) rfl rfl rfl ?_
      -- R2.4 18 := more.go:57 fieldAddr
      refine WL.v (by exact r_field ty_fld28_2 rfl) rfl rfl rfl ?_
      -- R2.5 19 := more.go:57 load
      refine WL.v (by exact r_load1 (v := .int .i64 o.B) ty_one2 rfl (by rw [← f2]; exact st.c0 (by decide))) rfl rfl rfl ?_
      -- R2.6 20 := more.go:57 call
      refine WL.call (r_call ty_call34 rfl) rfl rfl rfl (within_ok (v := o.B) (n := 20) st) ?_
      rintro _ w ⟨he, st⟩
      have he : _ = Value.bool false := he.trans (by unfold wiP; rw [decide_eq_false hb])
      subst he
      -- R2.7 21 := more.go:57 unOp
      refine WL.v (by first | exact r_notT rfl | exact r_notF rfl | exact r_not rfl) rfl rfl rfl ?_
      -- R2.8 22 := more.go:57 pick
      refine WL.v (by first | exact r_pickT (v := .bool _) rfl rfl | exact r_pickF (v := .bool _) rfl rfl) rfl rfl rfl ?_
      refine WL.fin hK2146 (fun _ _ h => h) ?_
      refine WC.condT rfl rfl ?_
      refine WC.seq fun K2147 hK2147 => ?_
      -- region 3 (draws)
      refine WC.quietS st ty_mixed (by kernel_rfl) fun Kq hKq => ?_
      -- R3.0 23 := more.go:58 fieldAddr
      refine QL.v (fun w st => by exact r_field ty_fld36_3 rfl) rfl rfl rfl ?_
      -- R3.1 24 := more.go:58 fieldAddr
      refine QL.v (fun w st => by exact r_field ty_fld34_0 rfl) rfl rfl rfl ?_
      -- R3.2 25 := more.go:58 load
      refine QL.v (fun w st => by exact r_load1 (v := .int .i64 code) ty_one30 rfl (by rw [← f7]; exact st.c0 (by decide))) rfl rfl rfl ?_
      -- R3.3 26 := more.go:58 binOp
      refine QL.v (fun w st => by exact r_neq rfl rfl (decide_eq_true q21)) rfl rfl rfl ?_
      -- R3.4 27 := more.go:58 move
      refine QL.v (fun w st => by first | exact r_move (v := .bool _) rfl | exact r_move rfl) rfl rfl rfl ?_
      -- R3.5 28 := more.go:58 fieldAddr
      refine QL.v (fun w st => by exact r_field ty_fld36_3 rfl) rfl rfl rfl ?_
      -- R3.6 29 := more.go:58 fieldAddr
      refine QL.v (fun w st => by exact r_field ty_fld34_0 rfl) rfl rfl rfl ?_
      -- R3.7 30 := more.go:58 load
      refine QL.v (fun w st => by exact r_load1 (v := .int .i64 code) ty_one30 rfl (by rw [← f7]; exact st.c0 (by decide))) rfl rfl rfl ?_
      -- R3.8 31 := more.go:58 binOp
      refine QL.v (fun w st => by exact r_neq rfl rfl (decide_eq_true q22)) rfl rfl rfl ?_
      -- R3.9 32 := more.go:58 pick
      refine QL.v (fun w st => by first | exact r_pickT (v := .bool _) rfl rfl | exact r_pickF (v := .bool _) rfl rfl) rfl rfl rfl ?_
      -- R3.10 33 := more.go:58 move
      refine QL.v (fun w st => by first | exact r_move (v := .bool _) rfl | exact r_move rfl) rfl rfl rfl ?_
      -- R3.11 34 := more.go:58 fieldAddr
      refine QL.v (fun w st => by exact r_field ty_fld36_0 rfl) rfl rfl rfl ?_
      -- R3.12 35 := more.go:58 fieldAddr
      refine QL.v (fun w st => by exact r_field ty_fld28_0 rfl) rfl rfl rfl ?_
      -- R3.13 36 := more.go:58 load
      refine QL.v (fun w st => by exact r_load1 (v := .int .u8 (o.kind : Nat)) ty_one25 rfl (by rw [← f0]; exact st.c0 (by decide))) rfl rfl rfl ?_
      -- R3.14 37 := more.go:58 binOp
      refine QL.v (fun w st => by first | exact r_eql rfl rfl (decide_eq_true (by omega)) | exact r_eql rfl rfl (decide_eq_false (by omega)) | exact r_eql rfl rfl rfl) rfl rfl rfl ?_
      -- R3.15 38 := more.go:58 move
      refine QL.v (fun w st => by first | exact r_move (v := .bool _) rfl | exact r_move rfl) rfl rfl rfl ?_
      -- R3.16 39 := more.go:58 fieldAddr
      refine QL.v (fun w st => by exact r_field ty_fld36_2 rfl) rfl rfl rfl ?_
      -- R3.17 40 := more.go:58 load
      refine QL.v (fun w st => by exact r_load1 (v := .pointer (some ⟨bA, 0, none⟩)) ty_one29 rfl (by rw [← f6]; exact st.c0 (by decide))) rfl rfl rfl ?_
      -- R3.18 41 := more.go:58 nilCheck
      refine QL.v (fun w st => by exact r_nilCheck rfl) rfl rfl rfl ?_
      -- R3.19 42 := more.go:58 fieldAddr
      refine QL.v (fun w st => by exact r_field ty_fld50_5 rfl) rfl rfl rfl ?_
      -- R3.20 43 := more.go:58 load
      refine QL.v (fun w st => by exact r_loadN (f := hM s'.claim) ty_agg45 rfl (fun k hk => c_s (hck1 _).A (by omega) (by rw [show 0 + 419 + k = 419 + k by omega]; exact sF_c hk) st)) rfl rfl rfl ?_
      -- R3.21 44 := more.go:58 fieldAddr
      refine QL.v (fun w st => by exact r_field ty_fld36_1 rfl) rfl rfl rfl ?_
      -- R3.22 45 := more.go:58 load
      refine QL.v (fun w st => by exact r_load1 (v := .pointer (some ⟨bB, 0, none⟩)) ty_one29 rfl (by rw [← f5]; exact st.c0 (by decide))) rfl rfl rfl ?_
      -- R3.23 46 := more.go:58 nilCheck
      refine QL.v (fun w st => by exact r_nilCheck rfl) rfl rfl rfl ?_
      -- R3.24 47 := more.go:58 fieldAddr
      refine QL.v (fun w st => by exact r_field ty_fld50_5 rfl) rfl rfl rfl ?_
      -- R3.25 48 := more.go:58 load
      refine QL.v (fun w st => by exact r_loadN (f := hM s.claim) ty_agg45 rfl (fun k hk => c_s (hck1 _).B (by omega) (by rw [show 0 + 419 + k = 419 + k by omega]; exact sF_c hk) st)) rfl rfl rfl ?_
      -- R3.26 49 := more.go:58 binOp
      refine QL.v (fun w st => by exact r_aeql (n := 320) (F := hM s'.claim) (G := hM s.claim) (t := true) eqHA List.length_replicate rfl rfl hM_fit ⟨fun _ i hi => by rw [hcs], fun _ => rfl⟩) rfl rfl rfl ?_
      -- R3.27 50 := more.go:58 pick
      refine QL.v (fun w st => by first | exact r_pickT (v := .bool _) rfl rfl | exact r_pickF (v := .bool _) rfl rfl) rfl rfl rfl ?_
      -- R3.28 51 := more.go:58 pick
      refine QL.v (fun w st => by first | exact r_pickT (v := .bool _) rfl rfl | exact r_pickF (v := .bool _) rfl rfl) rfl rfl rfl ?_
      -- R3.29 2 := more.go:58 assign
      refine QL.v (fun w st => by first | exact r_assign (v := .bool _) rfl | exact r_assign rfl) rfl rfl rfl ?_
      refine QL.wl hKq fun w st => ?_
      refine WL.fin hK2147 (fun _ _ h => h) ?_
      refine WC.ret1 Tryz.results65 (fun _ _ h => h) rfl ?_
      exact ⟨_, rfl, rfl, st.drop⟩

  obtain ⟨t, ht16, hAt, hT, hl, hwt⟩ := cf_T hF
  obtain ⟨r, hr⟩ : ∃ r : Nat, o.B = r := ⟨o.B.toNat, by omega⟩
  have hr20 : r < 20 := by omega
  have hA' : o.A.toNat = t := by rw [hAt]; rfl
  have hB' : o.B.toNat = r := by rw [hr]; rfl
  rw [hA', hB'] at hd ha'
  rw [hA'] at hx
  have hbtr := hb16 t r
  have htot := totP_le r
  refine enter [.agg (stepL o bB bA code task (.slice a ans.length c)).toArray] Tryz.func65 rfl Tryz.ntmps65 rfl ?_
  show WC _ _ _ 198 [] [(0, .agg (stepL o bB bA code task (.slice a ans.length c)).toArray)] _
  refine WC.seq fun K2148 hK2148 => ?_
  -- region 0
  refine WC.region ?_
  -- R0.0 1 := more.go:55 box
  refine WL.box (m := 10) (vs := stepL o bB bA code task (.slice a ans.length c)) st rfl rfl rfl rfl rfl rfl ?_
  intro b1 w st
  have st : S0 w0 ((b1, Row 36 10 fs) :: l) w := by rw [hfs]; exact st
  -- R0.1 2 := more.go:55 assign
  refine WL.v (by first | exact r_assign (v := .bool _) rfl | exact r_assign rfl) rfl rfl rfl ?_
  refine WL.fin hK2148 (fun _ _ h => h) ?_
  refine WC.seq fun K2149 hK2149 => ?_
  -- region 1
  refine WC.region ?_
  -- R1.0 10 := more.go:56 load
  refine WL.v (by exact r_loadL (vs := stepL o bB bA code task (.slice a ans.length c)) ty_agg36 rfl ⟨(st.c0 (by decide)).trans (congrArg some f0), (st.c0 (by decide)).trans (congrArg some f1), (st.c0 (by decide)).trans (congrArg some f2), (st.c0 (by decide)).trans (congrArg some f3), (st.c0 (by decide)).trans (congrArg some f4), (st.c0 (by decide)).trans (congrArg some f5), (st.c0 (by decide)).trans (congrArg some f6), (st.c0 (by decide)).trans (congrArg some f7), (st.c0 (by decide)).trans (congrArg some f8), (st.c0 (by decide)).trans (congrArg some f9), trivial⟩) rfl rfl rfl ?_
  -- R1.1 11 := more.go:56 call
  refine WL.call (r_call ty_call33 rfl) rfl rfl rfl (callerL_ok (o := o) (List.mem_cons_of_mem _ hck.B) rfl st) ?_
  rintro _ w ⟨rfl, st⟩
  -- R1.2 9 := more.go:56 move
  refine WL.v (by first | exact r_move (v := .tuple _) rfl | exact r_move rfl) rfl rfl rfl ?_
  -- R1.3 12 := more.go:56 extract
  refine WL.v (by first | exact r_extract (v := .int _ _) rfl rfl | exact r_extract rfl rfl) rfl rfl rfl ?_
  -- R1.4 13 := more.go:56 extract
  refine WL.v (by first | exact r_extract (v := .bool _) rfl rfl | exact r_extract rfl rfl) rfl rfl rfl ?_
  -- R1.5 3 := more.go:56 assign
  refine WL.v (by first | exact r_assign (v := .int _ _) rfl | exact r_assign rfl) rfl rfl rfl ?_
  -- R1.6 4 := more.go:56 assign
  refine WL.v (by first | exact r_assign (v := .bool _) rfl | exact r_assign rfl) rfl rfl rfl ?_
  refine WL.fin hK2149 (fun _ _ h => h) ?_
  refine WC.seq fun K2150 hK2150 => ?_
  refine WC.seq fun K2151 hK2151 => ?_
  -- region 2
  refine WC.region ?_
  -- R2.0 14 := more.go:57 move
  refine WL.v (by exact r_move (v := .bool true) (congrArg Value.bool hF)) rfl rfl rfl ?_
  -- R2.1 15 := more.go:57 unOp
  refine WL.v (by first | exact r_notT rfl | exact r_notF rfl | exact r_not rfl) rfl rfl rfl ?_
  -- R2.2 16 := more.go:57 move
  refine WL.v (by first | exact r_move (v := .bool _) rfl | exact r_move rfl) rfl rfl rfl ?_
  -- R2.3 17 := more.go:57 fieldAddr
  refine WL.v (by exact r_field ty_fld36_0 rfl) rfl rfl rfl ?_
  -- R2.4 18 := more.go:57 fieldAddr
  refine WL.v (by exact r_field ty_fld28_2 rfl) rfl rfl rfl ?_
  -- R2.5 19 := more.go:57 load
  refine WL.v (by exact r_load1 (v := .int .i64 o.B) ty_one2 rfl (by rw [← f2]; exact st.c0 (by decide))) rfl rfl rfl ?_
  -- R2.6 20 := more.go:57 call
  refine WL.call (r_call ty_call34 rfl) rfl rfl rfl (within_ok (v := o.B) (n := 20) st) ?_
  rintro _ w ⟨he, st⟩
  have he : _ = Value.bool true := he.trans (by unfold wiP; rw [decide_eq_true hb])
  subst he
  -- R2.7 21 := more.go:57 unOp
  refine WL.v (by first | exact r_notT rfl | exact r_notF rfl | exact r_not rfl) rfl rfl rfl ?_
  -- R2.8 22 := more.go:57 pick
  refine WL.v (by first | exact r_pickT (v := .bool _) rfl rfl | exact r_pickF (v := .bool _) rfl rfl) rfl rfl rfl ?_
  refine WL.fin hK2151 (fun _ _ h => h) ?_
  refine WC.condF rfl rfl ?_
  refine WC.skipF hK2150 (fun _ _ h => h) ?_
  refine WC.seq fun K2152 hK2152 => ?_
  -- region 4
  refine WC.region ?_
  -- R4.0 52 := more.go:60 fieldAddr
  refine WL.v (by exact r_field ty_fld36_0 rfl) rfl rfl rfl ?_
  -- R4.1 53 := more.go:60 fieldAddr
  refine WL.v (by exact r_field ty_fld28_2 rfl) rfl rfl rfl ?_
  -- R4.2 54 := more.go:60 load
  refine WL.v (by exact r_load1 (v := .int .i64 (r : Nat)) ty_one2 rfl (by rw [← hr, ← f2]; exact st.c0 (by decide))) rfl rfl rfl ?_
  -- R4.3 5 := more.go:60 assign
  refine WL.v (by first | exact r_assign (v := .int _ _) rfl | exact r_assign rfl) rfl rfl rfl ?_
  refine WL.fin hK2152 (fun _ _ h => h) ?_
  refine WC.seq fun K2153 hK2153 => ?_
  -- region 5
  refine WC.region ?_
  -- R5.0 55 := more.go:61 fieldAddr
  refine WL.v (by exact r_field ty_fld36_1 rfl) rfl rfl rfl ?_
  -- R5.1 56 := more.go:61 load
  refine WL.v (by exact r_load1 (v := .pointer (some ⟨bB, 0, none⟩)) ty_one29 rfl (by rw [← f5]; exact st.c0 (by decide))) rfl rfl rfl ?_
  -- R5.2 57 := more.go:61 nilCheck
  refine WL.v (by exact r_nilCheck rfl) rfl rfl rfl ?_
  -- R5.3 58 := more.go:61 fieldAddr
  refine WL.v (by exact r_field ty_fld50_5 rfl) rfl rfl rfl ?_
  -- R5.4 59 := more.go:61 load
  refine WL.v (by exact r_loadN (f := hM s.claim) ty_agg45 rfl (fun k hk => c_s (hck1 _).B (by omega) (by rw [show 0 + 419 + k = 419 + k by omega]; exact sF_c hk) st)) rfl rfl rfl ?_
  -- R5.5 6 := more.go:61 alloc
  refine WL.allocN (m := 320) st ty_zeroN45 rfl rfl ?_
  intro b6 w st
  -- R5.6 None := more.go:61 store
  refine WL.storeN (v := hM s.claim) st ty_agg45 rfl rfl (fun _ _ => rfl) (by decide) rfl rfl ?_
  intro w st
  have st : S0 w0 ((b6, Row 45 320 (hM s.claim)) :: (b1, Row 36 10 fs) :: l) w := stE (fun k hk => by rw [upds_eq, if_pos (by omega), Nat.sub_zero]) st
  refine WL.fin hK2153 (fun _ _ h => h) ?_
  by_cases hk2 : o.kind = 2
  · obtain ⟨d1, d2, d3⟩ := hd hk2 hF hb
    by_cases hC : 0 ≤ o.C ∧ o.C < (totP r : Int) + 1
    rotate_left
    · obtain ⟨c21, hss⟩ := d1 hC
      have hss := hss.symm
      subst hss
      refine WC.seq fun K2154 hK2154 => ?_
      refine WC.seq fun K2155 hK2155 => ?_
      -- region 6
      refine WC.region ?_
      -- R6.0 60 := more.go:62 fieldAddr
      refine WL.v (by exact r_field ty_fld36_0 rfl) rfl rfl rfl ?_
      -- R6.1 61 := more.go:62 fieldAddr
      refine WL.v (by exact r_field ty_fld28_0 rfl) rfl rfl rfl ?_
      -- R6.2 62 := more.go:62 load
      refine WL.v (by exact r_load1 (v := .int .u8 (o.kind : Nat)) ty_one25 rfl (by rw [← f0]; exact st.c1 (by decide))) rfl rfl rfl ?_
      refine WL.fin hK2155 (fun _ _ h => h) ?_
      refine WC.block ?_
      refine WC.seq fun K2156 hK2156 => ?_
      -- region 7
      refine WC.region ?_
      -- R7.0 64 := more.go:63 binOp
      refine WL.v (by first | exact r_eql rfl rfl (decide_eq_true (by omega)) | exact r_eql rfl rfl (decide_eq_false (by omega)) | exact r_eql rfl rfl rfl) rfl rfl rfl ?_
      -- R7.1 63 := more.go:63 assign
      refine WL.v (by first | exact r_assign (v := .bool _) rfl | exact r_assign rfl) rfl rfl rfl ?_
      refine WL.fin hK2156 (fun _ _ h => h) ?_
      refine WC.condT rfl rfl ?_
      refine WC.seq fun K2157 hK2157 => ?_
      refine WC.block ?_
      refine WC.seq fun K2158 hK2158 => ?_
      -- region 8 (draws)
      refine WC.quietS st ty_mixed (by kernel_rfl) fun Kq hKq => ?_
      -- R8.0 66 := more.go:65 fieldAddr
      refine QL.v (fun w st => by exact r_field ty_fld36_0 rfl) rfl rfl rfl ?_
      -- R8.1 67 := more.go:65 fieldAddr
      refine QL.v (fun w st => by exact r_field ty_fld28_3 rfl) rfl rfl rfl ?_
      -- R8.2 68 := more.go:65 load
      refine QL.v (fun w st => by exact r_load1 (v := .int .i64 o.C) ty_one2 rfl (by rw [← f3]; exact st.c1 (by decide))) rfl rfl rfl ?_
      -- R8.3 69 := more.go:65 move
      refine QL.v (fun w st => by first | exact r_move (v := .int _ _) rfl | exact r_move rfl) rfl rfl rfl ?_
      -- R8.4 70 := more.go:65 call
      refine QL.call (val := .int .i64 (totP r : Nat)) (fun w st => r_call ty_call58 rfl) rfl rfl rfl (fun w st => total_ok (r := r) st) ?_
      -- R8.5 71 := more.go:65 binOp
      refine QL.v (fun w st => by exact r_add (r := (totP r : Int) + 1) rfl rfl (wi64 (by omega) (by omega))) rfl rfl rfl ?_
      -- R8.6 72 := more.go:65 call
      refine QL.call (val := .bool false) (fun w st => r_call ty_call34 rfl) rfl rfl rfl (fun w st => (within_ok st).mono (by rintro _ _ ⟨v, rfl, rfl, st⟩; exact ⟨_, rfl, by unfold wiP; rw [decide_eq_false hC], st⟩)) ?_
      -- R8.7 73 := more.go:65 unOp
      refine QL.v (fun w st => by first | exact r_notT rfl | exact r_notF rfl | exact r_not rfl) rfl rfl rfl ?_
      -- R8.8 65 := more.go:65 assign
      refine QL.v (fun w st => by first | exact r_assign (v := .bool _) rfl | exact r_assign rfl) rfl rfl rfl ?_
      refine QL.wl hKq fun w st => ?_
      refine WL.fin hK2158 (fun _ _ h => h) ?_
      refine WC.condT rfl rfl ?_
      refine WC.seq fun K2159 hK2159 => ?_
      -- region 9
      refine WC.region ?_
      -- R9.0 74 := more.go:66 fieldAddr
      refine WL.v (by exact r_field ty_fld36_3 rfl) rfl rfl rfl ?_
      -- R9.1 75 := more.go:66 fieldAddr
      refine WL.v (by exact r_field ty_fld34_0 rfl) rfl rfl rfl ?_
      -- R9.2 76 := more.go:66 load
      refine WL.v (by exact r_load1 (v := .int .i64 code) ty_one30 rfl (by rw [← f7]; exact st.c1 (by decide))) rfl rfl rfl ?_
      -- R9.3 77 := more.go:66 binOp
      refine WL.v (by first | exact r_eql rfl rfl (decide_eq_true (by omega)) | exact r_eql rfl rfl (decide_eq_false (by omega)) | exact r_eql rfl rfl rfl) rfl rfl rfl ?_
      -- R9.4 78 := more.go:66 move
      refine WL.v (by first | exact r_move (v := .bool _) rfl | exact r_move rfl) rfl rfl rfl ?_
      -- R9.5 79 := more.go:66 fieldAddr
      refine WL.v (by exact r_field ty_fld36_2 rfl) rfl rfl rfl ?_
      -- R9.6 80 := more.go:66 load
      refine WL.v (by exact r_load1 (v := .pointer (some ⟨bA, 0, none⟩)) ty_one29 rfl (by rw [← f6]; exact st.c1 (by decide))) rfl rfl rfl ?_
      -- R9.7 81 := more.go:66 fieldAddr
      refine WL.v (by exact r_field ty_fld36_1 rfl) rfl rfl rfl ?_
      -- R9.8 82 := more.go:66 load
      refine WL.v (by exact r_load1 (v := .pointer (some ⟨bB, 0, none⟩)) ty_one29 rfl (by rw [← f5]; exact st.c1 (by decide))) rfl rfl rfl ?_
      -- R9.9 83 := more.go:66 call
      refine WL.call (r_call ty_call45 rfl) rfl rfl rfl (stateEq_ok (hck2 _ _).A (hck2 _ _).B (hck2 _ _).q' (hck2 _ _).q st) ?_
      rintro _ w ⟨rfl, st⟩
      -- R9.10 84 := more.go:66 pick
      refine WL.v (by first | exact r_pickT (v := .bool _) rfl rfl | exact r_pickF (v := .bool _) rfl rfl) rfl rfl rfl ?_
      -- R9.11 2 := more.go:66 assign
      refine WL.v (by first | exact r_assign (v := .bool _) rfl | exact r_assign rfl) rfl rfl rfl ?_
      refine WL.fin hK2159 (fun _ _ h => h) ?_
      refine WC.ret1 Tryz.results65 (fun _ _ h => h) rfl ?_
      exact ⟨_, rfl, rfl, st.drop.drop⟩
    by_cases hh : ∀ r, r < 20 → s.held t r = 0
    rotate_left
    · obtain ⟨c22, hss⟩ := d2 hC hh
      have hss := hss.symm
      subst hss
      refine WC.seq fun K2160 hK2160 => ?_
      refine WC.seq fun K2161 hK2161 => ?_
      -- region 6
      refine WC.region ?_
      -- R6.0 60 := more.go:62 fieldAddr
      refine WL.v (by exact r_field ty_fld36_0 rfl) rfl rfl rfl ?_
      -- R6.1 61 := more.go:62 fieldAddr
      refine WL.v (by exact r_field ty_fld28_0 rfl) rfl rfl rfl ?_
      -- R6.2 62 := more.go:62 load
      refine WL.v (by exact r_load1 (v := .int .u8 (o.kind : Nat)) ty_one25 rfl (by rw [← f0]; exact st.c1 (by decide))) rfl rfl rfl ?_
      refine WL.fin hK2161 (fun _ _ h => h) ?_
      refine WC.block ?_
      refine WC.seq fun K2162 hK2162 => ?_
      -- region 7
      refine WC.region ?_
      -- R7.0 64 := more.go:63 binOp
      refine WL.v (by first | exact r_eql rfl rfl (decide_eq_true (by omega)) | exact r_eql rfl rfl (decide_eq_false (by omega)) | exact r_eql rfl rfl rfl) rfl rfl rfl ?_
      -- R7.1 63 := more.go:63 assign
      refine WL.v (by first | exact r_assign (v := .bool _) rfl | exact r_assign rfl) rfl rfl rfl ?_
      refine WL.fin hK2162 (fun _ _ h => h) ?_
      refine WC.condT rfl rfl ?_
      refine WC.seq fun K2163 hK2163 => ?_
      refine WC.block ?_
      refine WC.seq fun K2164 hK2164 => ?_
      -- region 8 (draws)
      refine WC.quietS st ty_mixed (by kernel_rfl) fun Kq hKq => ?_
      -- R8.0 66 := more.go:65 fieldAddr
      refine QL.v (fun w st => by exact r_field ty_fld36_0 rfl) rfl rfl rfl ?_
      -- R8.1 67 := more.go:65 fieldAddr
      refine QL.v (fun w st => by exact r_field ty_fld28_3 rfl) rfl rfl rfl ?_
      -- R8.2 68 := more.go:65 load
      refine QL.v (fun w st => by exact r_load1 (v := .int .i64 o.C) ty_one2 rfl (by rw [← f3]; exact st.c1 (by decide))) rfl rfl rfl ?_
      -- R8.3 69 := more.go:65 move
      refine QL.v (fun w st => by first | exact r_move (v := .int _ _) rfl | exact r_move rfl) rfl rfl rfl ?_
      -- R8.4 70 := more.go:65 call
      refine QL.call (val := .int .i64 (totP r : Nat)) (fun w st => r_call ty_call58 rfl) rfl rfl rfl (fun w st => total_ok (r := r) st) ?_
      -- R8.5 71 := more.go:65 binOp
      refine QL.v (fun w st => by exact r_add (r := (totP r : Int) + 1) rfl rfl (wi64 (by omega) (by omega))) rfl rfl rfl ?_
      -- R8.6 72 := more.go:65 call
      refine QL.call (val := .bool true) (fun w st => r_call ty_call34 rfl) rfl rfl rfl (fun w st => (within_ok st).mono (by rintro _ _ ⟨v, rfl, rfl, st⟩; exact ⟨_, rfl, by unfold wiP; rw [decide_eq_true hC], st⟩)) ?_
      -- R8.7 73 := more.go:65 unOp
      refine QL.v (fun w st => by first | exact r_notT rfl | exact r_notF rfl | exact r_not rfl) rfl rfl rfl ?_
      -- R8.8 65 := more.go:65 assign
      refine QL.v (fun w st => by first | exact r_assign (v := .bool _) rfl | exact r_assign rfl) rfl rfl rfl ?_
      refine QL.wl hKq fun w st => ?_
      refine WL.fin hK2164 (fun _ _ h => h) ?_
      refine WC.condF rfl rfl ?_
      refine WC.seq fun K2165 hK2165 => ?_
      -- region 10
      refine WC.region ?_
      -- R10.0 86 := more.go:67 fieldAddr
      refine WL.v (by exact r_field ty_fld36_1 rfl) rfl rfl rfl ?_
      -- R10.1 87 := more.go:67 load
      refine WL.v (by exact r_load1 (v := .pointer (some ⟨bB, 0, none⟩)) ty_one29 rfl (by rw [← f5]; exact st.c1 (by decide))) rfl rfl rfl ?_
      -- R10.2 88 := more.go:67 move
      refine WL.v (by exact r_move (v := .int .i64 (t : Nat)) (congrArg (Value.int .i64) hT)) rfl rfl rfl ?_
      -- R10.3 89 := more.go:67 nilCheck
      refine WL.v (by exact r_nilCheck rfl) rfl rfl rfl ?_
      -- R10.4 90 := more.go:67 fieldAddr
      refine WL.v (by exact r_field ty_fld50_4 rfl) rfl rfl rfl ?_
      -- R10.5 91 := more.go:67 indexAddr
      refine WL.v (by exact r_indexA (j := t) ty_ar45 rfl rfl rfl ht16) rfl rfl rfl ?_
      -- R10.6 92 := more.go:67 load
      refine WL.v (by exact r_loadN (f := (fun r => .int .i64 (s.held t r : Nat))) ty_agg44 rfl (fun k hk => c_sH (hck2 _ _).B ht16 hk (by omega) st)) rfl rfl rfl ?_
      -- R10.7 93 := more.go:67 build
      refine WL.v (by exact r_buildN (n := 20) (z := fun _ => .int .i64 0) (v := fun _ => .int .i64 0) (ps := []) ty_pl44 ty_zeroN44 rfl fill_nil) rfl rfl rfl ?_
      -- R10.8 94 := more.go:67 binOp
      refine WL.v (by exact r_aneq (n := 20) (F := fun r => .int .i64 (s.held t r : Nat)) (G := fun _ => .int .i64 0) (t := true) eqH List.length_replicate rfl rfl (fun i hi => by rw [rep_get hi]; exact KFit.int) ⟨(fun k => by cases k), fun k => absurd (fun r hr => by have := k r hr; injection this with _ h2; omega) hh⟩) rfl rfl rfl ?_
      -- R10.9 85 := more.go:67 assign
      refine WL.v (by first | exact r_assign (v := .bool _) rfl | exact r_assign rfl) rfl rfl rfl ?_
      refine WL.fin hK2165 (fun _ _ h => h) ?_
      refine WC.condT rfl rfl ?_
      refine WC.seq fun K2166 hK2166 => ?_
      -- region 11
      refine WC.region ?_
      -- R11.0 95 := more.go:68 fieldAddr
      refine WL.v (by exact r_field ty_fld36_3 rfl) rfl rfl rfl ?_
      -- R11.1 96 := more.go:68 fieldAddr
      refine WL.v (by exact r_field ty_fld34_0 rfl) rfl rfl rfl ?_
      -- R11.2 97 := more.go:68 load
      refine WL.v (by exact r_load1 (v := .int .i64 code) ty_one30 rfl (by rw [← f7]; exact st.c1 (by decide))) rfl rfl rfl ?_
      -- R11.3 98 := more.go:68 binOp
      refine WL.v (by first | exact r_eql rfl rfl (decide_eq_true (by omega)) | exact r_eql rfl rfl (decide_eq_false (by omega)) | exact r_eql rfl rfl rfl) rfl rfl rfl ?_
      -- R11.4 99 := more.go:68 move
      refine WL.v (by first | exact r_move (v := .bool _) rfl | exact r_move rfl) rfl rfl rfl ?_
      -- R11.5 100 := more.go:68 fieldAddr
      refine WL.v (by exact r_field ty_fld36_2 rfl) rfl rfl rfl ?_
      -- R11.6 101 := more.go:68 load
      refine WL.v (by exact r_load1 (v := .pointer (some ⟨bA, 0, none⟩)) ty_one29 rfl (by rw [← f6]; exact st.c1 (by decide))) rfl rfl rfl ?_
      -- R11.7 102 := more.go:68 fieldAddr
      refine WL.v (by exact r_field ty_fld36_1 rfl) rfl rfl rfl ?_
      -- R11.8 103 := more.go:68 load
      refine WL.v (by exact r_load1 (v := .pointer (some ⟨bB, 0, none⟩)) ty_one29 rfl (by rw [← f5]; exact st.c1 (by decide))) rfl rfl rfl ?_
      -- R11.9 104 := more.go:68 call
      refine WL.call (r_call ty_call45 rfl) rfl rfl rfl (stateEq_ok (hck2 _ _).A (hck2 _ _).B (hck2 _ _).q' (hck2 _ _).q st) ?_
      rintro _ w ⟨rfl, st⟩
      -- R11.10 105 := more.go:68 pick
      refine WL.v (by first | exact r_pickT (v := .bool _) rfl rfl | exact r_pickF (v := .bool _) rfl rfl) rfl rfl rfl ?_
      -- R11.11 2 := more.go:68 assign
      refine WL.v (by first | exact r_assign (v := .bool _) rfl | exact r_assign rfl) rfl rfl rfl ?_
      refine WL.fin hK2166 (fun _ _ h => h) ?_
      refine WC.ret1 Tryz.results65 (fun _ _ h => h) rfl ?_
      exact ⟨_, rfl, rfl, st.drop.drop⟩
    obtain ⟨c0, hcl⟩ := d3 hC hh
    obtain ⟨u, hu⟩ : ∃ u : Nat, o.C = u := ⟨o.C.toNat, by omega⟩
    have hC' : o.C.toNat = u := by rw [hu]; rfl
    rw [hC'] at hcl
    refine WC.seq fun K2167 hK2167 => ?_
    refine WC.seq fun K2168 hK2168 => ?_
    -- region 6
    refine WC.region ?_
    -- R6.0 60 := more.go:62 fieldAddr
    refine WL.v (by exact r_field ty_fld36_0 rfl) rfl rfl rfl ?_
    -- R6.1 61 := more.go:62 fieldAddr
    refine WL.v (by exact r_field ty_fld28_0 rfl) rfl rfl rfl ?_
    -- R6.2 62 := more.go:62 load
    refine WL.v (by exact r_load1 (v := .int .u8 (o.kind : Nat)) ty_one25 rfl (by rw [← f0]; exact st.c1 (by decide))) rfl rfl rfl ?_
    refine WL.fin hK2168 (fun _ _ h => h) ?_
    refine WC.block ?_
    refine WC.seq fun K2169 hK2169 => ?_
    -- region 7
    refine WC.region ?_
    -- R7.0 64 := more.go:63 binOp
    refine WL.v (by first | exact r_eql rfl rfl (decide_eq_true (by omega)) | exact r_eql rfl rfl (decide_eq_false (by omega)) | exact r_eql rfl rfl rfl) rfl rfl rfl ?_
    -- R7.1 63 := more.go:63 assign
    refine WL.v (by first | exact r_assign (v := .bool _) rfl | exact r_assign rfl) rfl rfl rfl ?_
    refine WL.fin hK2169 (fun _ _ h => h) ?_
    refine WC.condT rfl rfl ?_
    refine WC.seq fun K2170 hK2170 => ?_
    refine WC.block ?_
    refine WC.seq fun K2171 hK2171 => ?_
    -- region 8 (draws)
    refine WC.quietS st ty_mixed (by kernel_rfl) fun Kq hKq => ?_
    -- R8.0 66 := more.go:65 fieldAddr
    refine QL.v (fun w st => by exact r_field ty_fld36_0 rfl) rfl rfl rfl ?_
    -- R8.1 67 := more.go:65 fieldAddr
    refine QL.v (fun w st => by exact r_field ty_fld28_3 rfl) rfl rfl rfl ?_
    -- R8.2 68 := more.go:65 load
    refine QL.v (fun w st => by exact r_load1 (v := .int .i64 o.C) ty_one2 rfl (by rw [← f3]; exact st.c1 (by decide))) rfl rfl rfl ?_
    -- R8.3 69 := more.go:65 move
    refine QL.v (fun w st => by first | exact r_move (v := .int _ _) rfl | exact r_move rfl) rfl rfl rfl ?_
    -- R8.4 70 := more.go:65 call
    refine QL.call (val := .int .i64 (totP r : Nat)) (fun w st => r_call ty_call58 rfl) rfl rfl rfl (fun w st => total_ok (r := r) st) ?_
    -- R8.5 71 := more.go:65 binOp
    refine QL.v (fun w st => by exact r_add (r := (totP r : Int) + 1) rfl rfl (wi64 (by omega) (by omega))) rfl rfl rfl ?_
    -- R8.6 72 := more.go:65 call
    refine QL.call (val := .bool true) (fun w st => r_call ty_call34 rfl) rfl rfl rfl (fun w st => (within_ok st).mono (by rintro _ _ ⟨v, rfl, rfl, st⟩; exact ⟨_, rfl, by unfold wiP; rw [decide_eq_true hC], st⟩)) ?_
    -- R8.7 73 := more.go:65 unOp
    refine QL.v (fun w st => by first | exact r_notT rfl | exact r_notF rfl | exact r_not rfl) rfl rfl rfl ?_
    -- R8.8 65 := more.go:65 assign
    refine QL.v (fun w st => by first | exact r_assign (v := .bool _) rfl | exact r_assign rfl) rfl rfl rfl ?_
    refine QL.wl hKq fun w st => ?_
    refine WL.fin hK2171 (fun _ _ h => h) ?_
    refine WC.condF rfl rfl ?_
    refine WC.seq fun K2172 hK2172 => ?_
    -- region 10
    refine WC.region ?_
    -- R10.0 86 := more.go:67 fieldAddr
    refine WL.v (by exact r_field ty_fld36_1 rfl) rfl rfl rfl ?_
    -- R10.1 87 := more.go:67 load
    refine WL.v (by exact r_load1 (v := .pointer (some ⟨bB, 0, none⟩)) ty_one29 rfl (by rw [← f5]; exact st.c1 (by decide))) rfl rfl rfl ?_
    -- R10.2 88 := more.go:67 move
    refine WL.v (by exact r_move (v := .int .i64 (t : Nat)) (congrArg (Value.int .i64) hT)) rfl rfl rfl ?_
    -- R10.3 89 := more.go:67 nilCheck
    refine WL.v (by exact r_nilCheck rfl) rfl rfl rfl ?_
    -- R10.4 90 := more.go:67 fieldAddr
    refine WL.v (by exact r_field ty_fld50_4 rfl) rfl rfl rfl ?_
    -- R10.5 91 := more.go:67 indexAddr
    refine WL.v (by exact r_indexA (j := t) ty_ar45 rfl rfl rfl ht16) rfl rfl rfl ?_
    -- R10.6 92 := more.go:67 load
    refine WL.v (by exact r_loadN (f := (fun r => .int .i64 (s.held t r : Nat))) ty_agg44 rfl (fun k hk => c_sH (hck2 _ _).B ht16 hk (by omega) st)) rfl rfl rfl ?_
    -- R10.7 93 := more.go:67 build
    refine WL.v (by exact r_buildN (n := 20) (z := fun _ => .int .i64 0) (v := fun _ => .int .i64 0) (ps := []) ty_pl44 ty_zeroN44 rfl fill_nil) rfl rfl rfl ?_
    -- R10.8 94 := more.go:67 binOp
    refine WL.v (by exact r_aneq (n := 20) (F := fun r => .int .i64 (s.held t r : Nat)) (G := fun _ => .int .i64 0) (t := false) eqH List.length_replicate rfl rfl (fun i hi => by rw [rep_get hi]; exact KFit.int) ⟨fun _ i hi => by rw [hh i hi]; rfl, fun _ => rfl⟩) rfl rfl rfl ?_
    -- R10.9 85 := more.go:67 assign
    refine WL.v (by first | exact r_assign (v := .bool _) rfl | exact r_assign rfl) rfl rfl rfl ?_
    refine WL.fin hK2172 (fun _ _ h => h) ?_
    refine WC.condF rfl rfl ?_
    refine WC.skipF hK2170 (fun _ _ h => h) ?_
    refine WC.seq fun K2173 hK2173 => ?_
    -- region 12 (draws)
    refine WC.tailS 7 st ty_mixed (by kernel_rfl) fun w st Kq hKq => ?_
    -- R12.0 106 := more.go:70 move
    refine SL.v (by exact r_move (v := .int .i64 (t : Nat)) (congrArg (Value.int .i64) hT)) rfl rfl rfl ?_
    -- R12.1 107 := more.go:70 move
    refine SL.v (by first | exact r_move (v := .int _ _) rfl | exact r_move rfl) rfl rfl rfl ?_
    -- R12.2 108 := more.go:70 fieldAddr
    refine SL.v (by exact r_field ty_fld36_0 rfl) rfl rfl rfl ?_
    -- R12.3 109 := more.go:70 fieldAddr
    refine SL.v (by exact r_field ty_fld28_3 rfl) rfl rfl rfl ?_
    -- R12.4 110 := more.go:70 load
    refine SL.v (by exact r_load1 (v := .int .i64 (u : Nat)) ty_one2 rfl (by rw [← hu, ← f3]; exact st.c1 (by decide))) rfl rfl rfl ?_
    -- R12.5 111 := more.go:70 indexAddr
    refine SL.v (by exact r_indexA (j := t) ty_ar45 rfl rfl rfl ht16) rfl rfl rfl ?_
    -- R12.6 112 := more.go:70 indexAddr
    refine SL.v (by exact r_indexA (j := r) ty_ar44 rfl rfl rfl hr20) rfl rfl rfl ?_
    refine SL.fin hKq ?_
    -- R12.7 None := more.go:70 store
    refine WL.store (v := .int .i64 (u : Nat)) st ty_one3 rfl rfl rfl (by omega) rfl rfl ?_
    intro w st
    have st : S0 w0 ((b6, Row 45 320 (hM (upd2 s.claim t r u))) :: (b1, Row 36 10 fs) :: l) w := stE (hM_setC ht16 hr20) st
    refine WL.fin hK2173 (fun _ _ h => h) ?_
    refine WC.seq fun K2174 hK2174 => ?_
    -- region 13 (draws)
    refine WC.quietS st ty_mixed (by kernel_rfl) fun Kq hKq => ?_
    -- R13.0 113 := more.go:71 fieldAddr
    refine QL.v (fun w st => by exact r_field ty_fld36_3 rfl) rfl rfl rfl ?_
    -- R13.1 114 := more.go:71 fieldAddr
    refine QL.v (fun w st => by exact r_field ty_fld34_0 rfl) rfl rfl rfl ?_
    -- R13.2 115 := more.go:71 load
    refine QL.v (fun w st => by exact r_load1 (v := .int .i64 code) ty_one30 rfl (by rw [← f7]; exact st.c1 (by decide))) rfl rfl rfl ?_
    -- R13.3 116 := more.go:71 binOp
    refine QL.v (fun w st => by exact r_eql rfl rfl (decide_eq_true c0)) rfl rfl rfl ?_
    -- R13.4 117 := more.go:71 move
    refine QL.v (fun w st => by first | exact r_move (v := .bool _) rfl | exact r_move rfl) rfl rfl rfl ?_
    -- R13.5 118 := more.go:71 fieldAddr
    refine QL.v (fun w st => by exact r_field ty_fld36_2 rfl) rfl rfl rfl ?_
    -- R13.6 119 := more.go:71 load
    refine QL.v (fun w st => by exact r_load1 (v := .pointer (some ⟨bA, 0, none⟩)) ty_one29 rfl (by rw [← f6]; exact st.c1 (by decide))) rfl rfl rfl ?_
    -- R13.7 120 := more.go:71 nilCheck
    refine QL.v (fun w st => by exact r_nilCheck rfl) rfl rfl rfl ?_
    -- R13.8 121 := more.go:71 fieldAddr
    refine QL.v (fun w st => by exact r_field ty_fld50_5 rfl) rfl rfl rfl ?_
    -- R13.9 122 := more.go:71 load
    refine QL.v (fun w st => by exact r_loadN (f := hM s'.claim) ty_agg45 rfl (fun k hk => c_s (hck2 _ _).A (by omega) (by rw [show 0 + 419 + k = 419 + k by omega]; exact sF_c hk) st)) rfl rfl rfl ?_
    -- R13.10 123 := more.go:71 load
    refine QL.v (fun w st => by exact r_loadN (f := hM (upd2 s.claim t r u)) ty_agg45 rfl (fun k hk => by rw [Nat.zero_add]; exact st.c0 hk)) rfl rfl rfl ?_
    -- R13.11 124 := more.go:71 binOp
    refine QL.v (fun w st => by exact r_aeql (n := 320) (F := hM s'.claim) (G := hM (upd2 s.claim t r u)) (t := true) eqHA List.length_replicate rfl rfl hM_fit ⟨fun _ i hi => by rw [hcl], fun _ => rfl⟩) rfl rfl rfl ?_
    -- R13.12 125 := more.go:71 pick
    refine QL.v (fun w st => by first | exact r_pickT (v := .bool _) rfl rfl | exact r_pickF (v := .bool _) rfl rfl) rfl rfl rfl ?_
    -- R13.13 2 := more.go:71 assign
    refine QL.v (fun w st => by first | exact r_assign (v := .bool _) rfl | exact r_assign rfl) rfl rfl rfl ?_
    refine QL.wl hKq fun w st => ?_
    refine WL.fin hK2174 (fun _ _ h => h) ?_
    refine WC.ret1 Tryz.results65 (fun _ _ h => h) rfl ?_
    exact ⟨_, rfl, rfl, st.drop.drop⟩
  have q22 := h22 hk2
  refine WC.cut (ι := Unit) (fun _ => [(1, .pointer (some ⟨b1, 0, none⟩)), (6, .pointer (some ⟨b6, 0, none⟩))]) (fun _ w' => S0 w0 ((b6, Row 45 320 (hM s'.claim)) :: (b1, Row 36 10 fs) :: l) w') ?_ ?_
  rotate_left
  · intro KC hKC
    by_cases hk35 : 3 ≤ o.kind ∧ o.kind ≤ 5
    · have hcs := hs hk2 (by omega)
      have ha' := ha' hk35 hF hb
      by_cases hm3 : s.mode = 3
      · skip
        by_cases hnc : (s.claim t r : Int) - s.held t r < o.C
        rotate_left
        · skip
          by_cases h14 : code = 14
          · skip
            rcases (by omega : o.kind = 3 ∨ o.kind = 4 ∨ o.kind = 5) with hk3 | hk4 | hk5
            · skip
              refine WC.seq fun K2175 hK2175 => ?_
              -- region 6
              refine WC.region ?_
              -- R6.0 60 := more.go:62 fieldAddr
              refine WL.v (by exact r_field ty_fld36_0 rfl) rfl rfl rfl ?_
              -- R6.1 61 := more.go:62 fieldAddr
              refine WL.v (by exact r_field ty_fld28_0 rfl) rfl rfl rfl ?_
              -- R6.2 62 := more.go:62 load
              refine WL.v (by exact r_load1 (v := .int .u8 (o.kind : Nat)) ty_one25 rfl (by rw [← f0]; exact st.c1 (by decide))) rfl rfl rfl ?_
              refine WL.fin hK2175 (fun _ _ h => h) ?_
              refine WC.block ?_
              refine WC.seq fun K2176 hK2176 => ?_
              -- region 7
              refine WC.region ?_
              -- R7.0 64 := more.go:63 binOp
              refine WL.v (by first | exact r_eql rfl rfl (decide_eq_true (by omega)) | exact r_eql rfl rfl (decide_eq_false (by omega)) | exact r_eql rfl rfl rfl) rfl rfl rfl ?_
              -- R7.1 63 := more.go:63 assign
              refine WL.v (by first | exact r_assign (v := .bool _) rfl | exact r_assign rfl) rfl rfl rfl ?_
              refine WL.fin hK2176 (fun _ _ h => h) ?_
              refine WC.condF rfl rfl ?_
              refine WC.seq fun K2177 hK2177 => ?_
              refine WC.seq fun K2178 hK2178 => ?_
              -- region 14
              refine WC.region ?_
              -- R14.0 127 := more.go:72 binOp
              refine WL.v (by first | exact r_eql rfl rfl (decide_eq_true (by omega)) | exact r_eql rfl rfl (decide_eq_false (by omega)) | exact r_eql rfl rfl rfl) rfl rfl rfl ?_
              -- R14.1 126 := more.go:72 assign
              refine WL.v (by first | exact r_assign (v := .bool _) rfl | exact r_assign rfl) rfl rfl rfl ?_
              refine WL.fin hK2178 (fun _ _ h => h) ?_
              refine WC.condT rfl rfl ?_
              refine WC.skipF hK2177 (fun _ _ h => h) ?_
              refine WC.condT rfl rfl ?_
              refine WC.seq fun K2179 hK2179 => ?_
              -- region 17 (draws)
              refine WC.quietS st ty_mixed (by kernel_rfl) fun Kq hKq => ?_
              -- R17.0 130 := more.go:73 fieldAddr
              refine QL.v (fun w st => by exact r_field ty_fld36_1 rfl) rfl rfl rfl ?_
              -- R17.1 131 := more.go:73 load
              refine QL.v (fun w st => by exact r_load1 (v := .pointer (some ⟨bB, 0, none⟩)) ty_one29 rfl (by rw [← f5]; exact st.c1 (by decide))) rfl rfl rfl ?_
              -- R17.2 132 := more.go:73 nilCheck
              refine QL.v (fun w st => by exact r_nilCheck rfl) rfl rfl rfl ?_
              -- R17.3 133 := more.go:73 fieldAddr
              refine QL.v (fun w st => by exact r_field ty_fld50_0 rfl) rfl rfl rfl ?_
              -- R17.4 134 := more.go:73 load
              refine QL.v (fun w st => by exact r_load1 (v := .int .i64 (s.mode : Nat)) ty_one40 rfl (c_s (hck2 _ _).B (by decide) rfl st)) rfl rfl rfl ?_
              -- R17.5 135 := more.go:73 binOp
              refine QL.v (fun w st => by first | exact r_eql rfl rfl (decide_eq_true (by omega)) | exact r_eql rfl rfl (decide_eq_false (by omega)) | exact r_eql rfl rfl rfl) rfl rfl rfl ?_
              -- R17.6 136 := more.go:73 move
              refine QL.v (fun w st => by first | exact r_move (v := .bool _) rfl | exact r_move rfl) rfl rfl rfl ?_
              -- R17.7 137 := more.go:73 fieldAddr
              refine QL.v (fun w st => by exact r_field ty_fld36_0 rfl) rfl rfl rfl ?_
              -- R17.8 138 := more.go:73 fieldAddr
              refine QL.v (fun w st => by exact r_field ty_fld28_3 rfl) rfl rfl rfl ?_
              -- R17.9 139 := more.go:73 load
              refine QL.v (fun w st => by exact r_load1 (v := .int .i64 o.C) ty_one2 rfl (by rw [← f3]; exact st.c1 (by decide))) rfl rfl rfl ?_
              -- R17.10 140 := more.go:73 fieldAddr
              refine QL.v (fun w st => by exact r_field ty_fld36_1 rfl) rfl rfl rfl ?_
              -- R17.11 141 := more.go:73 load
              refine QL.v (fun w st => by exact r_load1 (v := .pointer (some ⟨bB, 0, none⟩)) ty_one29 rfl (by rw [← f5]; exact st.c1 (by decide))) rfl rfl rfl ?_
              -- R17.12 142 := more.go:73 move
              refine QL.v (fun w st => by exact r_move (v := .int .i64 (t : Nat)) (congrArg (Value.int .i64) hT)) rfl rfl rfl ?_
              -- R17.13 143 := more.go:73 move
              refine QL.v (fun w st => by first | exact r_move (v := .int _ _) rfl | exact r_move rfl) rfl rfl rfl ?_
              -- R17.14 144 := more.go:73 nilCheck
              refine QL.v (fun w st => by exact r_nilCheck rfl) rfl rfl rfl ?_
              -- R17.15 145 := more.go:73 fieldAddr
              refine QL.v (fun w st => by exact r_field ty_fld50_5 rfl) rfl rfl rfl ?_
              -- R17.16 146 := more.go:73 indexAddr
              refine QL.v (fun w st => by exact r_indexA (j := t) ty_ar45 rfl rfl rfl ht16) rfl rfl rfl ?_
              -- R17.17 147 := more.go:73 indexAddr
              refine QL.v (fun w st => by exact r_indexA (j := r) ty_ar44 rfl rfl rfl hr20) rfl rfl rfl ?_
              -- R17.18 148 := more.go:73 load
              refine QL.v (fun w st => by exact r_load1 (v := .int .i64 (s.claim t r : Nat)) ty_one3 rfl (c_sC (hck2 _ _).B ht16 hr20 (by omega) st)) rfl rfl rfl ?_
              -- R17.19 149 := more.go:73 fieldAddr
              refine QL.v (fun w st => by exact r_field ty_fld36_1 rfl) rfl rfl rfl ?_
              -- R17.20 150 := more.go:73 load
              refine QL.v (fun w st => by exact r_load1 (v := .pointer (some ⟨bB, 0, none⟩)) ty_one29 rfl (by rw [← f5]; exact st.c1 (by decide))) rfl rfl rfl ?_
              -- R17.21 151 := more.go:73 move
              refine QL.v (fun w st => by exact r_move (v := .int .i64 (t : Nat)) (congrArg (Value.int .i64) hT)) rfl rfl rfl ?_
              -- R17.22 152 := more.go:73 move
              refine QL.v (fun w st => by first | exact r_move (v := .int _ _) rfl | exact r_move rfl) rfl rfl rfl ?_
              -- R17.23 153 := more.go:73 nilCheck
              refine QL.v (fun w st => by exact r_nilCheck rfl) rfl rfl rfl ?_
              -- R17.24 154 := more.go:73 fieldAddr
              refine QL.v (fun w st => by exact r_field ty_fld50_4 rfl) rfl rfl rfl ?_
              -- R17.25 155 := more.go:73 indexAddr
              refine QL.v (fun w st => by exact r_indexA (j := t) ty_ar45 rfl rfl rfl ht16) rfl rfl rfl ?_
              -- R17.26 156 := more.go:73 indexAddr
              refine QL.v (fun w st => by exact r_indexA (j := r) ty_ar44 rfl rfl rfl hr20) rfl rfl rfl ?_
              -- R17.27 157 := more.go:73 load
              refine QL.v (fun w st => by exact r_load1 (v := .int .i64 (s.held t r : Nat)) ty_one3 rfl (c_sH (hck2 _ _).B ht16 hr20 (by omega) st)) rfl rfl rfl ?_
              -- R17.28 158 := more.go:73 binOp
              refine QL.v (fun w st => by exact r_sub (r := (s.claim t r : Int) - s.held t r) rfl rfl (wi64 (by omega) (by omega))) rfl rfl rfl ?_
              -- R17.29 159 := more.go:73 binOp
              refine QL.v (fun w st => by exact r_gtr rfl rfl (decide_eq_false hnc)) rfl rfl rfl ?_
              -- R17.30 160 := more.go:73 pick
              refine QL.v (fun w st => by first | exact r_pickT (v := .bool _) rfl rfl | exact r_pickF (v := .bool _) rfl rfl) rfl rfl rfl ?_
              -- R17.31 7 := more.go:73 assign
              refine QL.v (fun w st => by first | exact r_assign (v := .bool _) rfl | exact r_assign rfl) rfl rfl rfl ?_
              refine QL.wl hKq fun w st => ?_
              refine WL.fin hK2179 (fun _ _ h => h) ?_
              refine WC.seq fun K2180 hK2180 => ?_
              -- region 18
              refine WC.region ?_
              -- R18.0 161 := more.go:74 fieldAddr
              refine WL.v (by exact r_field ty_fld36_3 rfl) rfl rfl rfl ?_
              -- R18.1 162 := more.go:74 fieldAddr
              refine WL.v (by exact r_field ty_fld34_0 rfl) rfl rfl rfl ?_
              -- R18.2 163 := more.go:74 load
              refine WL.v (by exact r_load1 (v := .int .i64 code) ty_one30 rfl (by rw [← f7]; exact st.c1 (by decide))) rfl rfl rfl ?_
              -- R18.3 164 := more.go:74 binOp
              refine WL.v (by first | exact r_neq rfl rfl (decide_eq_true (by omega)) | exact r_neq rfl rfl (decide_eq_false (by omega)) | exact r_neq rfl rfl rfl) rfl rfl rfl ?_
              -- R18.4 165 := more.go:74 move
              refine WL.v (by first | exact r_move (v := .bool _) rfl | exact r_move rfl) rfl rfl rfl ?_
              -- R18.5 166 := more.go:74 fieldAddr
              refine WL.no rfl rfl ?_
              -- R18.6 167 := more.go:74 fieldAddr
              refine WL.no rfl rfl ?_
              -- R18.7 168 := more.go:74 load
              refine WL.no rfl rfl ?_
              -- R18.8 169 := more.go:74 binOp
              refine WL.no rfl rfl ?_
              -- R18.9 170 := more.go:74 pick
              refine WL.v (by first | exact r_pickT (v := .bool _) rfl rfl | exact r_pickF (v := .bool _) rfl rfl) rfl rfl rfl ?_
              -- R18.10 8 := more.go:74 assign
              refine WL.v (by first | exact r_assign (v := .bool _) rfl | exact r_assign rfl) rfl rfl rfl ?_
              refine WL.fin hK2180 (fun _ _ h => h) ?_
              refine WC.seq fun K2181 hK2181 => ?_
              -- region 19
              refine WC.region ?_
              -- R19.0 171 := more.go:75 move
              refine WL.v (by first | exact r_move (v := .bool _) rfl | exact r_move rfl) rfl rfl rfl ?_
              -- R19.1 172 := more.go:75 move
              refine WL.v (by first | exact r_move (v := .bool _) rfl | exact r_move rfl) rfl rfl rfl ?_
              -- R19.2 173 := more.go:75 move
              refine WL.no rfl rfl ?_
              -- R19.3 174 := more.go:75 fieldAddr
              refine WL.no rfl rfl ?_
              -- R19.4 175 := more.go:75 fieldAddr
              refine WL.no rfl rfl ?_
              -- R19.5 176 := more.go:75 load
              refine WL.no rfl rfl ?_
              -- R19.6 177 := more.go:75 binOp
              refine WL.no rfl rfl ?_
              -- R19.7 178 := more.go:75 binOp
              refine WL.no rfl rfl ?_
              -- R19.8 179 := more.go:75 pick
              refine WL.v (by first | exact r_pickT (v := .bool _) rfl rfl | exact r_pickF (v := .bool _) rfl rfl) rfl rfl rfl ?_
              refine WL.fin hK2181 (fun _ _ h => h) ?_
              refine WC.condF rfl rfl ?_
              refine WC.skipJ hKC (fun _ _ h => h) () (by rw [hcs]; exact st) (by repeat (first | exact sub_nil _ | refine sub_cons rfl rfl ?_))
            · skip
              refine WC.seq fun K2182 hK2182 => ?_
              -- region 6
              refine WC.region ?_
              -- R6.0 60 := more.go:62 fieldAddr
              refine WL.v (by exact r_field ty_fld36_0 rfl) rfl rfl rfl ?_
              -- R6.1 61 := more.go:62 fieldAddr
              refine WL.v (by exact r_field ty_fld28_0 rfl) rfl rfl rfl ?_
              -- R6.2 62 := more.go:62 load
              refine WL.v (by exact r_load1 (v := .int .u8 (o.kind : Nat)) ty_one25 rfl (by rw [← f0]; exact st.c1 (by decide))) rfl rfl rfl ?_
              refine WL.fin hK2182 (fun _ _ h => h) ?_
              refine WC.block ?_
              refine WC.seq fun K2183 hK2183 => ?_
              -- region 7
              refine WC.region ?_
              -- R7.0 64 := more.go:63 binOp
              refine WL.v (by first | exact r_eql rfl rfl (decide_eq_true (by omega)) | exact r_eql rfl rfl (decide_eq_false (by omega)) | exact r_eql rfl rfl rfl) rfl rfl rfl ?_
              -- R7.1 63 := more.go:63 assign
              refine WL.v (by first | exact r_assign (v := .bool _) rfl | exact r_assign rfl) rfl rfl rfl ?_
              refine WL.fin hK2183 (fun _ _ h => h) ?_
              refine WC.condF rfl rfl ?_
              refine WC.seq fun K2184 hK2184 => ?_
              refine WC.seq fun K2185 hK2185 => ?_
              -- region 14
              refine WC.region ?_
              -- R14.0 127 := more.go:72 binOp
              refine WL.v (by first | exact r_eql rfl rfl (decide_eq_true (by omega)) | exact r_eql rfl rfl (decide_eq_false (by omega)) | exact r_eql rfl rfl rfl) rfl rfl rfl ?_
              -- R14.1 126 := more.go:72 assign
              refine WL.v (by first | exact r_assign (v := .bool _) rfl | exact r_assign rfl) rfl rfl rfl ?_
              refine WL.fin hK2185 (fun _ _ h => h) ?_
              refine WC.condF rfl rfl ?_
              refine WC.seq fun K2186 hK2186 => ?_
              -- region 15
              refine WC.region ?_
              -- R15.0 128 := more.go:72 binOp
              refine WL.v (by first | exact r_eql rfl rfl (decide_eq_true (by omega)) | exact r_eql rfl rfl (decide_eq_false (by omega)) | exact r_eql rfl rfl rfl) rfl rfl rfl ?_
              -- R15.1 126 := more.go:72 assign
              refine WL.v (by first | exact r_assign (v := .bool _) rfl | exact r_assign rfl) rfl rfl rfl ?_
              refine WL.fin hK2186 (fun _ _ h => h) ?_
              refine WC.condT rfl rfl ?_
              refine WC.skipF hK2184 (fun _ _ h => h) ?_
              refine WC.condT rfl rfl ?_
              refine WC.seq fun K2187 hK2187 => ?_
              -- region 17 (draws)
              refine WC.quietS st ty_mixed (by kernel_rfl) fun Kq hKq => ?_
              -- R17.0 130 := more.go:73 fieldAddr
              refine QL.v (fun w st => by exact r_field ty_fld36_1 rfl) rfl rfl rfl ?_
              -- R17.1 131 := more.go:73 load
              refine QL.v (fun w st => by exact r_load1 (v := .pointer (some ⟨bB, 0, none⟩)) ty_one29 rfl (by rw [← f5]; exact st.c1 (by decide))) rfl rfl rfl ?_
              -- R17.2 132 := more.go:73 nilCheck
              refine QL.v (fun w st => by exact r_nilCheck rfl) rfl rfl rfl ?_
              -- R17.3 133 := more.go:73 fieldAddr
              refine QL.v (fun w st => by exact r_field ty_fld50_0 rfl) rfl rfl rfl ?_
              -- R17.4 134 := more.go:73 load
              refine QL.v (fun w st => by exact r_load1 (v := .int .i64 (s.mode : Nat)) ty_one40 rfl (c_s (hck2 _ _).B (by decide) rfl st)) rfl rfl rfl ?_
              -- R17.5 135 := more.go:73 binOp
              refine QL.v (fun w st => by first | exact r_eql rfl rfl (decide_eq_true (by omega)) | exact r_eql rfl rfl (decide_eq_false (by omega)) | exact r_eql rfl rfl rfl) rfl rfl rfl ?_
              -- R17.6 136 := more.go:73 move
              refine QL.v (fun w st => by first | exact r_move (v := .bool _) rfl | exact r_move rfl) rfl rfl rfl ?_
              -- R17.7 137 := more.go:73 fieldAddr
              refine QL.v (fun w st => by exact r_field ty_fld36_0 rfl) rfl rfl rfl ?_
              -- R17.8 138 := more.go:73 fieldAddr
              refine QL.v (fun w st => by exact r_field ty_fld28_3 rfl) rfl rfl rfl ?_
              -- R17.9 139 := more.go:73 load
              refine QL.v (fun w st => by exact r_load1 (v := .int .i64 o.C) ty_one2 rfl (by rw [← f3]; exact st.c1 (by decide))) rfl rfl rfl ?_
              -- R17.10 140 := more.go:73 fieldAddr
              refine QL.v (fun w st => by exact r_field ty_fld36_1 rfl) rfl rfl rfl ?_
              -- R17.11 141 := more.go:73 load
              refine QL.v (fun w st => by exact r_load1 (v := .pointer (some ⟨bB, 0, none⟩)) ty_one29 rfl (by rw [← f5]; exact st.c1 (by decide))) rfl rfl rfl ?_
              -- R17.12 142 := more.go:73 move
              refine QL.v (fun w st => by exact r_move (v := .int .i64 (t : Nat)) (congrArg (Value.int .i64) hT)) rfl rfl rfl ?_
              -- R17.13 143 := more.go:73 move
              refine QL.v (fun w st => by first | exact r_move (v := .int _ _) rfl | exact r_move rfl) rfl rfl rfl ?_
              -- R17.14 144 := more.go:73 nilCheck
              refine QL.v (fun w st => by exact r_nilCheck rfl) rfl rfl rfl ?_
              -- R17.15 145 := more.go:73 fieldAddr
              refine QL.v (fun w st => by exact r_field ty_fld50_5 rfl) rfl rfl rfl ?_
              -- R17.16 146 := more.go:73 indexAddr
              refine QL.v (fun w st => by exact r_indexA (j := t) ty_ar45 rfl rfl rfl ht16) rfl rfl rfl ?_
              -- R17.17 147 := more.go:73 indexAddr
              refine QL.v (fun w st => by exact r_indexA (j := r) ty_ar44 rfl rfl rfl hr20) rfl rfl rfl ?_
              -- R17.18 148 := more.go:73 load
              refine QL.v (fun w st => by exact r_load1 (v := .int .i64 (s.claim t r : Nat)) ty_one3 rfl (c_sC (hck2 _ _).B ht16 hr20 (by omega) st)) rfl rfl rfl ?_
              -- R17.19 149 := more.go:73 fieldAddr
              refine QL.v (fun w st => by exact r_field ty_fld36_1 rfl) rfl rfl rfl ?_
              -- R17.20 150 := more.go:73 load
              refine QL.v (fun w st => by exact r_load1 (v := .pointer (some ⟨bB, 0, none⟩)) ty_one29 rfl (by rw [← f5]; exact st.c1 (by decide))) rfl rfl rfl ?_
              -- R17.21 151 := more.go:73 move
              refine QL.v (fun w st => by exact r_move (v := .int .i64 (t : Nat)) (congrArg (Value.int .i64) hT)) rfl rfl rfl ?_
              -- R17.22 152 := more.go:73 move
              refine QL.v (fun w st => by first | exact r_move (v := .int _ _) rfl | exact r_move rfl) rfl rfl rfl ?_
              -- R17.23 153 := more.go:73 nilCheck
              refine QL.v (fun w st => by exact r_nilCheck rfl) rfl rfl rfl ?_
              -- R17.24 154 := more.go:73 fieldAddr
              refine QL.v (fun w st => by exact r_field ty_fld50_4 rfl) rfl rfl rfl ?_
              -- R17.25 155 := more.go:73 indexAddr
              refine QL.v (fun w st => by exact r_indexA (j := t) ty_ar45 rfl rfl rfl ht16) rfl rfl rfl ?_
              -- R17.26 156 := more.go:73 indexAddr
              refine QL.v (fun w st => by exact r_indexA (j := r) ty_ar44 rfl rfl rfl hr20) rfl rfl rfl ?_
              -- R17.27 157 := more.go:73 load
              refine QL.v (fun w st => by exact r_load1 (v := .int .i64 (s.held t r : Nat)) ty_one3 rfl (c_sH (hck2 _ _).B ht16 hr20 (by omega) st)) rfl rfl rfl ?_
              -- R17.28 158 := more.go:73 binOp
              refine QL.v (fun w st => by exact r_sub (r := (s.claim t r : Int) - s.held t r) rfl rfl (wi64 (by omega) (by omega))) rfl rfl rfl ?_
              -- R17.29 159 := more.go:73 binOp
              refine QL.v (fun w st => by exact r_gtr rfl rfl (decide_eq_false hnc)) rfl rfl rfl ?_
              -- R17.30 160 := more.go:73 pick
              refine QL.v (fun w st => by first | exact r_pickT (v := .bool _) rfl rfl | exact r_pickF (v := .bool _) rfl rfl) rfl rfl rfl ?_
              -- R17.31 7 := more.go:73 assign
              refine QL.v (fun w st => by first | exact r_assign (v := .bool _) rfl | exact r_assign rfl) rfl rfl rfl ?_
              refine QL.wl hKq fun w st => ?_
              refine WL.fin hK2187 (fun _ _ h => h) ?_
              refine WC.seq fun K2188 hK2188 => ?_
              -- region 18
              refine WC.region ?_
              -- R18.0 161 := more.go:74 fieldAddr
              refine WL.v (by exact r_field ty_fld36_3 rfl) rfl rfl rfl ?_
              -- R18.1 162 := more.go:74 fieldAddr
              refine WL.v (by exact r_field ty_fld34_0 rfl) rfl rfl rfl ?_
              -- R18.2 163 := more.go:74 load
              refine WL.v (by exact r_load1 (v := .int .i64 code) ty_one30 rfl (by rw [← f7]; exact st.c1 (by decide))) rfl rfl rfl ?_
              -- R18.3 164 := more.go:74 binOp
              refine WL.v (by first | exact r_neq rfl rfl (decide_eq_true (by omega)) | exact r_neq rfl rfl (decide_eq_false (by omega)) | exact r_neq rfl rfl rfl) rfl rfl rfl ?_
              -- R18.4 165 := more.go:74 move
              refine WL.v (by first | exact r_move (v := .bool _) rfl | exact r_move rfl) rfl rfl rfl ?_
              -- R18.5 166 := more.go:74 fieldAddr
              refine WL.no rfl rfl ?_
              -- R18.6 167 := more.go:74 fieldAddr
              refine WL.no rfl rfl ?_
              -- R18.7 168 := more.go:74 load
              refine WL.no rfl rfl ?_
              -- R18.8 169 := more.go:74 binOp
              refine WL.no rfl rfl ?_
              -- R18.9 170 := more.go:74 pick
              refine WL.v (by first | exact r_pickT (v := .bool _) rfl rfl | exact r_pickF (v := .bool _) rfl rfl) rfl rfl rfl ?_
              -- R18.10 8 := more.go:74 assign
              refine WL.v (by first | exact r_assign (v := .bool _) rfl | exact r_assign rfl) rfl rfl rfl ?_
              refine WL.fin hK2188 (fun _ _ h => h) ?_
              refine WC.seq fun K2189 hK2189 => ?_
              -- region 19
              refine WC.region ?_
              -- R19.0 171 := more.go:75 move
              refine WL.v (by first | exact r_move (v := .bool _) rfl | exact r_move rfl) rfl rfl rfl ?_
              -- R19.1 172 := more.go:75 move
              refine WL.v (by first | exact r_move (v := .bool _) rfl | exact r_move rfl) rfl rfl rfl ?_
              -- R19.2 173 := more.go:75 move
              refine WL.no rfl rfl ?_
              -- R19.3 174 := more.go:75 fieldAddr
              refine WL.no rfl rfl ?_
              -- R19.4 175 := more.go:75 fieldAddr
              refine WL.no rfl rfl ?_
              -- R19.5 176 := more.go:75 load
              refine WL.no rfl rfl ?_
              -- R19.6 177 := more.go:75 binOp
              refine WL.no rfl rfl ?_
              -- R19.7 178 := more.go:75 binOp
              refine WL.no rfl rfl ?_
              -- R19.8 179 := more.go:75 pick
              refine WL.v (by first | exact r_pickT (v := .bool _) rfl rfl | exact r_pickF (v := .bool _) rfl rfl) rfl rfl rfl ?_
              refine WL.fin hK2189 (fun _ _ h => h) ?_
              refine WC.condF rfl rfl ?_
              refine WC.skipJ hKC (fun _ _ h => h) () (by rw [hcs]; exact st) (by repeat (first | exact sub_nil _ | refine sub_cons rfl rfl ?_))
            · skip
              refine WC.seq fun K2190 hK2190 => ?_
              -- region 6
              refine WC.region ?_
              -- R6.0 60 := more.go:62 fieldAddr
              refine WL.v (by exact r_field ty_fld36_0 rfl) rfl rfl rfl ?_
              -- R6.1 61 := more.go:62 fieldAddr
              refine WL.v (by exact r_field ty_fld28_0 rfl) rfl rfl rfl ?_
              -- R6.2 62 := more.go:62 load
              refine WL.v (by exact r_load1 (v := .int .u8 (o.kind : Nat)) ty_one25 rfl (by rw [← f0]; exact st.c1 (by decide))) rfl rfl rfl ?_
              refine WL.fin hK2190 (fun _ _ h => h) ?_
              refine WC.block ?_
              refine WC.seq fun K2191 hK2191 => ?_
              -- region 7
              refine WC.region ?_
              -- R7.0 64 := more.go:63 binOp
              refine WL.v (by first | exact r_eql rfl rfl (decide_eq_true (by omega)) | exact r_eql rfl rfl (decide_eq_false (by omega)) | exact r_eql rfl rfl rfl) rfl rfl rfl ?_
              -- R7.1 63 := more.go:63 assign
              refine WL.v (by first | exact r_assign (v := .bool _) rfl | exact r_assign rfl) rfl rfl rfl ?_
              refine WL.fin hK2191 (fun _ _ h => h) ?_
              refine WC.condF rfl rfl ?_
              refine WC.seq fun K2192 hK2192 => ?_
              refine WC.seq fun K2193 hK2193 => ?_
              -- region 14
              refine WC.region ?_
              -- R14.0 127 := more.go:72 binOp
              refine WL.v (by first | exact r_eql rfl rfl (decide_eq_true (by omega)) | exact r_eql rfl rfl (decide_eq_false (by omega)) | exact r_eql rfl rfl rfl) rfl rfl rfl ?_
              -- R14.1 126 := more.go:72 assign
              refine WL.v (by first | exact r_assign (v := .bool _) rfl | exact r_assign rfl) rfl rfl rfl ?_
              refine WL.fin hK2193 (fun _ _ h => h) ?_
              refine WC.condF rfl rfl ?_
              refine WC.seq fun K2194 hK2194 => ?_
              -- region 15
              refine WC.region ?_
              -- R15.0 128 := more.go:72 binOp
              refine WL.v (by first | exact r_eql rfl rfl (decide_eq_true (by omega)) | exact r_eql rfl rfl (decide_eq_false (by omega)) | exact r_eql rfl rfl rfl) rfl rfl rfl ?_
              -- R15.1 126 := more.go:72 assign
              refine WL.v (by first | exact r_assign (v := .bool _) rfl | exact r_assign rfl) rfl rfl rfl ?_
              refine WL.fin hK2194 (fun _ _ h => h) ?_
              refine WC.condF rfl rfl ?_
              -- region 16
              refine WC.region ?_
              -- R16.0 129 := more.go:72 binOp
              refine WL.v (by first | exact r_eql rfl rfl (decide_eq_true (by omega)) | exact r_eql rfl rfl (decide_eq_false (by omega)) | exact r_eql rfl rfl rfl) rfl rfl rfl ?_
              -- R16.1 126 := more.go:72 assign
              refine WL.v (by first | exact r_assign (v := .bool _) rfl | exact r_assign rfl) rfl rfl rfl ?_
              refine WL.fin hK2192 (fun _ _ h => h) ?_
              refine WC.condT rfl rfl ?_
              refine WC.seq fun K2195 hK2195 => ?_
              -- region 17 (draws)
              refine WC.quietS st ty_mixed (by kernel_rfl) fun Kq hKq => ?_
              -- R17.0 130 := more.go:73 fieldAddr
              refine QL.v (fun w st => by exact r_field ty_fld36_1 rfl) rfl rfl rfl ?_
              -- R17.1 131 := more.go:73 load
              refine QL.v (fun w st => by exact r_load1 (v := .pointer (some ⟨bB, 0, none⟩)) ty_one29 rfl (by rw [← f5]; exact st.c1 (by decide))) rfl rfl rfl ?_
              -- R17.2 132 := more.go:73 nilCheck
              refine QL.v (fun w st => by exact r_nilCheck rfl) rfl rfl rfl ?_
              -- R17.3 133 := more.go:73 fieldAddr
              refine QL.v (fun w st => by exact r_field ty_fld50_0 rfl) rfl rfl rfl ?_
              -- R17.4 134 := more.go:73 load
              refine QL.v (fun w st => by exact r_load1 (v := .int .i64 (s.mode : Nat)) ty_one40 rfl (c_s (hck2 _ _).B (by decide) rfl st)) rfl rfl rfl ?_
              -- R17.5 135 := more.go:73 binOp
              refine QL.v (fun w st => by first | exact r_eql rfl rfl (decide_eq_true (by omega)) | exact r_eql rfl rfl (decide_eq_false (by omega)) | exact r_eql rfl rfl rfl) rfl rfl rfl ?_
              -- R17.6 136 := more.go:73 move
              refine QL.v (fun w st => by first | exact r_move (v := .bool _) rfl | exact r_move rfl) rfl rfl rfl ?_
              -- R17.7 137 := more.go:73 fieldAddr
              refine QL.v (fun w st => by exact r_field ty_fld36_0 rfl) rfl rfl rfl ?_
              -- R17.8 138 := more.go:73 fieldAddr
              refine QL.v (fun w st => by exact r_field ty_fld28_3 rfl) rfl rfl rfl ?_
              -- R17.9 139 := more.go:73 load
              refine QL.v (fun w st => by exact r_load1 (v := .int .i64 o.C) ty_one2 rfl (by rw [← f3]; exact st.c1 (by decide))) rfl rfl rfl ?_
              -- R17.10 140 := more.go:73 fieldAddr
              refine QL.v (fun w st => by exact r_field ty_fld36_1 rfl) rfl rfl rfl ?_
              -- R17.11 141 := more.go:73 load
              refine QL.v (fun w st => by exact r_load1 (v := .pointer (some ⟨bB, 0, none⟩)) ty_one29 rfl (by rw [← f5]; exact st.c1 (by decide))) rfl rfl rfl ?_
              -- R17.12 142 := more.go:73 move
              refine QL.v (fun w st => by exact r_move (v := .int .i64 (t : Nat)) (congrArg (Value.int .i64) hT)) rfl rfl rfl ?_
              -- R17.13 143 := more.go:73 move
              refine QL.v (fun w st => by first | exact r_move (v := .int _ _) rfl | exact r_move rfl) rfl rfl rfl ?_
              -- R17.14 144 := more.go:73 nilCheck
              refine QL.v (fun w st => by exact r_nilCheck rfl) rfl rfl rfl ?_
              -- R17.15 145 := more.go:73 fieldAddr
              refine QL.v (fun w st => by exact r_field ty_fld50_5 rfl) rfl rfl rfl ?_
              -- R17.16 146 := more.go:73 indexAddr
              refine QL.v (fun w st => by exact r_indexA (j := t) ty_ar45 rfl rfl rfl ht16) rfl rfl rfl ?_
              -- R17.17 147 := more.go:73 indexAddr
              refine QL.v (fun w st => by exact r_indexA (j := r) ty_ar44 rfl rfl rfl hr20) rfl rfl rfl ?_
              -- R17.18 148 := more.go:73 load
              refine QL.v (fun w st => by exact r_load1 (v := .int .i64 (s.claim t r : Nat)) ty_one3 rfl (c_sC (hck2 _ _).B ht16 hr20 (by omega) st)) rfl rfl rfl ?_
              -- R17.19 149 := more.go:73 fieldAddr
              refine QL.v (fun w st => by exact r_field ty_fld36_1 rfl) rfl rfl rfl ?_
              -- R17.20 150 := more.go:73 load
              refine QL.v (fun w st => by exact r_load1 (v := .pointer (some ⟨bB, 0, none⟩)) ty_one29 rfl (by rw [← f5]; exact st.c1 (by decide))) rfl rfl rfl ?_
              -- R17.21 151 := more.go:73 move
              refine QL.v (fun w st => by exact r_move (v := .int .i64 (t : Nat)) (congrArg (Value.int .i64) hT)) rfl rfl rfl ?_
              -- R17.22 152 := more.go:73 move
              refine QL.v (fun w st => by first | exact r_move (v := .int _ _) rfl | exact r_move rfl) rfl rfl rfl ?_
              -- R17.23 153 := more.go:73 nilCheck
              refine QL.v (fun w st => by exact r_nilCheck rfl) rfl rfl rfl ?_
              -- R17.24 154 := more.go:73 fieldAddr
              refine QL.v (fun w st => by exact r_field ty_fld50_4 rfl) rfl rfl rfl ?_
              -- R17.25 155 := more.go:73 indexAddr
              refine QL.v (fun w st => by exact r_indexA (j := t) ty_ar45 rfl rfl rfl ht16) rfl rfl rfl ?_
              -- R17.26 156 := more.go:73 indexAddr
              refine QL.v (fun w st => by exact r_indexA (j := r) ty_ar44 rfl rfl rfl hr20) rfl rfl rfl ?_
              -- R17.27 157 := more.go:73 load
              refine QL.v (fun w st => by exact r_load1 (v := .int .i64 (s.held t r : Nat)) ty_one3 rfl (c_sH (hck2 _ _).B ht16 hr20 (by omega) st)) rfl rfl rfl ?_
              -- R17.28 158 := more.go:73 binOp
              refine QL.v (fun w st => by exact r_sub (r := (s.claim t r : Int) - s.held t r) rfl rfl (wi64 (by omega) (by omega))) rfl rfl rfl ?_
              -- R17.29 159 := more.go:73 binOp
              refine QL.v (fun w st => by exact r_gtr rfl rfl (decide_eq_false hnc)) rfl rfl rfl ?_
              -- R17.30 160 := more.go:73 pick
              refine QL.v (fun w st => by first | exact r_pickT (v := .bool _) rfl rfl | exact r_pickF (v := .bool _) rfl rfl) rfl rfl rfl ?_
              -- R17.31 7 := more.go:73 assign
              refine QL.v (fun w st => by first | exact r_assign (v := .bool _) rfl | exact r_assign rfl) rfl rfl rfl ?_
              refine QL.wl hKq fun w st => ?_
              refine WL.fin hK2195 (fun _ _ h => h) ?_
              refine WC.seq fun K2196 hK2196 => ?_
              -- region 18
              refine WC.region ?_
              -- R18.0 161 := more.go:74 fieldAddr
              refine WL.v (by exact r_field ty_fld36_3 rfl) rfl rfl rfl ?_
              -- R18.1 162 := more.go:74 fieldAddr
              refine WL.v (by exact r_field ty_fld34_0 rfl) rfl rfl rfl ?_
              -- R18.2 163 := more.go:74 load
              refine WL.v (by exact r_load1 (v := .int .i64 code) ty_one30 rfl (by rw [← f7]; exact st.c1 (by decide))) rfl rfl rfl ?_
              -- R18.3 164 := more.go:74 binOp
              refine WL.v (by first | exact r_neq rfl rfl (decide_eq_true (by omega)) | exact r_neq rfl rfl (decide_eq_false (by omega)) | exact r_neq rfl rfl rfl) rfl rfl rfl ?_
              -- R18.4 165 := more.go:74 move
              refine WL.v (by first | exact r_move (v := .bool _) rfl | exact r_move rfl) rfl rfl rfl ?_
              -- R18.5 166 := more.go:74 fieldAddr
              refine WL.no rfl rfl ?_
              -- R18.6 167 := more.go:74 fieldAddr
              refine WL.no rfl rfl ?_
              -- R18.7 168 := more.go:74 load
              refine WL.no rfl rfl ?_
              -- R18.8 169 := more.go:74 binOp
              refine WL.no rfl rfl ?_
              -- R18.9 170 := more.go:74 pick
              refine WL.v (by first | exact r_pickT (v := .bool _) rfl rfl | exact r_pickF (v := .bool _) rfl rfl) rfl rfl rfl ?_
              -- R18.10 8 := more.go:74 assign
              refine WL.v (by first | exact r_assign (v := .bool _) rfl | exact r_assign rfl) rfl rfl rfl ?_
              refine WL.fin hK2196 (fun _ _ h => h) ?_
              refine WC.seq fun K2197 hK2197 => ?_
              -- region 19
              refine WC.region ?_
              -- R19.0 171 := more.go:75 move
              refine WL.v (by first | exact r_move (v := .bool _) rfl | exact r_move rfl) rfl rfl rfl ?_
              -- R19.1 172 := more.go:75 move
              refine WL.v (by first | exact r_move (v := .bool _) rfl | exact r_move rfl) rfl rfl rfl ?_
              -- R19.2 173 := more.go:75 move
              refine WL.no rfl rfl ?_
              -- R19.3 174 := more.go:75 fieldAddr
              refine WL.no rfl rfl ?_
              -- R19.4 175 := more.go:75 fieldAddr
              refine WL.no rfl rfl ?_
              -- R19.5 176 := more.go:75 load
              refine WL.no rfl rfl ?_
              -- R19.6 177 := more.go:75 binOp
              refine WL.no rfl rfl ?_
              -- R19.7 178 := more.go:75 binOp
              refine WL.no rfl rfl ?_
              -- R19.8 179 := more.go:75 pick
              refine WL.v (by first | exact r_pickT (v := .bool _) rfl rfl | exact r_pickF (v := .bool _) rfl rfl) rfl rfl rfl ?_
              refine WL.fin hK2197 (fun _ _ h => h) ?_
              refine WC.condF rfl rfl ?_
              refine WC.skipJ hKC (fun _ _ h => h) () (by rw [hcs]; exact st) (by repeat (first | exact sub_nil _ | refine sub_cons rfl rfl ?_))
          by_cases h15 : code = 15
          · skip
            rcases (by omega : o.kind = 3 ∨ o.kind = 4 ∨ o.kind = 5) with hk3 | hk4 | hk5
            · skip
              refine WC.seq fun K2198 hK2198 => ?_
              -- region 6
              refine WC.region ?_
              -- R6.0 60 := more.go:62 fieldAddr
              refine WL.v (by exact r_field ty_fld36_0 rfl) rfl rfl rfl ?_
              -- R6.1 61 := more.go:62 fieldAddr
              refine WL.v (by exact r_field ty_fld28_0 rfl) rfl rfl rfl ?_
              -- R6.2 62 := more.go:62 load
              refine WL.v (by exact r_load1 (v := .int .u8 (o.kind : Nat)) ty_one25 rfl (by rw [← f0]; exact st.c1 (by decide))) rfl rfl rfl ?_
              refine WL.fin hK2198 (fun _ _ h => h) ?_
              refine WC.block ?_
              refine WC.seq fun K2199 hK2199 => ?_
              -- region 7
              refine WC.region ?_
              -- R7.0 64 := more.go:63 binOp
              refine WL.v (by first | exact r_eql rfl rfl (decide_eq_true (by omega)) | exact r_eql rfl rfl (decide_eq_false (by omega)) | exact r_eql rfl rfl rfl) rfl rfl rfl ?_
              -- R7.1 63 := more.go:63 assign
              refine WL.v (by first | exact r_assign (v := .bool _) rfl | exact r_assign rfl) rfl rfl rfl ?_
              refine WL.fin hK2199 (fun _ _ h => h) ?_
              refine WC.condF rfl rfl ?_
              refine WC.seq fun K2200 hK2200 => ?_
              refine WC.seq fun K2201 hK2201 => ?_
              -- region 14
              refine WC.region ?_
              -- R14.0 127 := more.go:72 binOp
              refine WL.v (by first | exact r_eql rfl rfl (decide_eq_true (by omega)) | exact r_eql rfl rfl (decide_eq_false (by omega)) | exact r_eql rfl rfl rfl) rfl rfl rfl ?_
              -- R14.1 126 := more.go:72 assign
              refine WL.v (by first | exact r_assign (v := .bool _) rfl | exact r_assign rfl) rfl rfl rfl ?_
              refine WL.fin hK2201 (fun _ _ h => h) ?_
              refine WC.condT rfl rfl ?_
              refine WC.skipF hK2200 (fun _ _ h => h) ?_
              refine WC.condT rfl rfl ?_
              refine WC.seq fun K2202 hK2202 => ?_
              -- region 17 (draws)
              refine WC.quietS st ty_mixed (by kernel_rfl) fun Kq hKq => ?_
              -- R17.0 130 := more.go:73 fieldAddr
              refine QL.v (fun w st => by exact r_field ty_fld36_1 rfl) rfl rfl rfl ?_
              -- R17.1 131 := more.go:73 load
              refine QL.v (fun w st => by exact r_load1 (v := .pointer (some ⟨bB, 0, none⟩)) ty_one29 rfl (by rw [← f5]; exact st.c1 (by decide))) rfl rfl rfl ?_
              -- R17.2 132 := more.go:73 nilCheck
              refine QL.v (fun w st => by exact r_nilCheck rfl) rfl rfl rfl ?_
              -- R17.3 133 := more.go:73 fieldAddr
              refine QL.v (fun w st => by exact r_field ty_fld50_0 rfl) rfl rfl rfl ?_
              -- R17.4 134 := more.go:73 load
              refine QL.v (fun w st => by exact r_load1 (v := .int .i64 (s.mode : Nat)) ty_one40 rfl (c_s (hck2 _ _).B (by decide) rfl st)) rfl rfl rfl ?_
              -- R17.5 135 := more.go:73 binOp
              refine QL.v (fun w st => by first | exact r_eql rfl rfl (decide_eq_true (by omega)) | exact r_eql rfl rfl (decide_eq_false (by omega)) | exact r_eql rfl rfl rfl) rfl rfl rfl ?_
              -- R17.6 136 := more.go:73 move
              refine QL.v (fun w st => by first | exact r_move (v := .bool _) rfl | exact r_move rfl) rfl rfl rfl ?_
              -- R17.7 137 := more.go:73 fieldAddr
              refine QL.v (fun w st => by exact r_field ty_fld36_0 rfl) rfl rfl rfl ?_
              -- R17.8 138 := more.go:73 fieldAddr
              refine QL.v (fun w st => by exact r_field ty_fld28_3 rfl) rfl rfl rfl ?_
              -- R17.9 139 := more.go:73 load
              refine QL.v (fun w st => by exact r_load1 (v := .int .i64 o.C) ty_one2 rfl (by rw [← f3]; exact st.c1 (by decide))) rfl rfl rfl ?_
              -- R17.10 140 := more.go:73 fieldAddr
              refine QL.v (fun w st => by exact r_field ty_fld36_1 rfl) rfl rfl rfl ?_
              -- R17.11 141 := more.go:73 load
              refine QL.v (fun w st => by exact r_load1 (v := .pointer (some ⟨bB, 0, none⟩)) ty_one29 rfl (by rw [← f5]; exact st.c1 (by decide))) rfl rfl rfl ?_
              -- R17.12 142 := more.go:73 move
              refine QL.v (fun w st => by exact r_move (v := .int .i64 (t : Nat)) (congrArg (Value.int .i64) hT)) rfl rfl rfl ?_
              -- R17.13 143 := more.go:73 move
              refine QL.v (fun w st => by first | exact r_move (v := .int _ _) rfl | exact r_move rfl) rfl rfl rfl ?_
              -- R17.14 144 := more.go:73 nilCheck
              refine QL.v (fun w st => by exact r_nilCheck rfl) rfl rfl rfl ?_
              -- R17.15 145 := more.go:73 fieldAddr
              refine QL.v (fun w st => by exact r_field ty_fld50_5 rfl) rfl rfl rfl ?_
              -- R17.16 146 := more.go:73 indexAddr
              refine QL.v (fun w st => by exact r_indexA (j := t) ty_ar45 rfl rfl rfl ht16) rfl rfl rfl ?_
              -- R17.17 147 := more.go:73 indexAddr
              refine QL.v (fun w st => by exact r_indexA (j := r) ty_ar44 rfl rfl rfl hr20) rfl rfl rfl ?_
              -- R17.18 148 := more.go:73 load
              refine QL.v (fun w st => by exact r_load1 (v := .int .i64 (s.claim t r : Nat)) ty_one3 rfl (c_sC (hck2 _ _).B ht16 hr20 (by omega) st)) rfl rfl rfl ?_
              -- R17.19 149 := more.go:73 fieldAddr
              refine QL.v (fun w st => by exact r_field ty_fld36_1 rfl) rfl rfl rfl ?_
              -- R17.20 150 := more.go:73 load
              refine QL.v (fun w st => by exact r_load1 (v := .pointer (some ⟨bB, 0, none⟩)) ty_one29 rfl (by rw [← f5]; exact st.c1 (by decide))) rfl rfl rfl ?_
              -- R17.21 151 := more.go:73 move
              refine QL.v (fun w st => by exact r_move (v := .int .i64 (t : Nat)) (congrArg (Value.int .i64) hT)) rfl rfl rfl ?_
              -- R17.22 152 := more.go:73 move
              refine QL.v (fun w st => by first | exact r_move (v := .int _ _) rfl | exact r_move rfl) rfl rfl rfl ?_
              -- R17.23 153 := more.go:73 nilCheck
              refine QL.v (fun w st => by exact r_nilCheck rfl) rfl rfl rfl ?_
              -- R17.24 154 := more.go:73 fieldAddr
              refine QL.v (fun w st => by exact r_field ty_fld50_4 rfl) rfl rfl rfl ?_
              -- R17.25 155 := more.go:73 indexAddr
              refine QL.v (fun w st => by exact r_indexA (j := t) ty_ar45 rfl rfl rfl ht16) rfl rfl rfl ?_
              -- R17.26 156 := more.go:73 indexAddr
              refine QL.v (fun w st => by exact r_indexA (j := r) ty_ar44 rfl rfl rfl hr20) rfl rfl rfl ?_
              -- R17.27 157 := more.go:73 load
              refine QL.v (fun w st => by exact r_load1 (v := .int .i64 (s.held t r : Nat)) ty_one3 rfl (c_sH (hck2 _ _).B ht16 hr20 (by omega) st)) rfl rfl rfl ?_
              -- R17.28 158 := more.go:73 binOp
              refine QL.v (fun w st => by exact r_sub (r := (s.claim t r : Int) - s.held t r) rfl rfl (wi64 (by omega) (by omega))) rfl rfl rfl ?_
              -- R17.29 159 := more.go:73 binOp
              refine QL.v (fun w st => by exact r_gtr rfl rfl (decide_eq_false hnc)) rfl rfl rfl ?_
              -- R17.30 160 := more.go:73 pick
              refine QL.v (fun w st => by first | exact r_pickT (v := .bool _) rfl rfl | exact r_pickF (v := .bool _) rfl rfl) rfl rfl rfl ?_
              -- R17.31 7 := more.go:73 assign
              refine QL.v (fun w st => by first | exact r_assign (v := .bool _) rfl | exact r_assign rfl) rfl rfl rfl ?_
              refine QL.wl hKq fun w st => ?_
              refine WL.fin hK2202 (fun _ _ h => h) ?_
              refine WC.seq fun K2203 hK2203 => ?_
              -- region 18
              refine WC.region ?_
              -- R18.0 161 := more.go:74 fieldAddr
              refine WL.v (by exact r_field ty_fld36_3 rfl) rfl rfl rfl ?_
              -- R18.1 162 := more.go:74 fieldAddr
              refine WL.v (by exact r_field ty_fld34_0 rfl) rfl rfl rfl ?_
              -- R18.2 163 := more.go:74 load
              refine WL.v (by exact r_load1 (v := .int .i64 code) ty_one30 rfl (by rw [← f7]; exact st.c1 (by decide))) rfl rfl rfl ?_
              -- R18.3 164 := more.go:74 binOp
              refine WL.v (by first | exact r_neq rfl rfl (decide_eq_true (by omega)) | exact r_neq rfl rfl (decide_eq_false (by omega)) | exact r_neq rfl rfl rfl) rfl rfl rfl ?_
              -- R18.4 165 := more.go:74 move
              refine WL.v (by first | exact r_move (v := .bool _) rfl | exact r_move rfl) rfl rfl rfl ?_
              -- R18.5 166 := more.go:74 fieldAddr
              refine WL.v (by exact r_field ty_fld36_3 rfl) rfl rfl rfl ?_
              -- R18.6 167 := more.go:74 fieldAddr
              refine WL.v (by exact r_field ty_fld34_0 rfl) rfl rfl rfl ?_
              -- R18.7 168 := more.go:74 load
              refine WL.v (by exact r_load1 (v := .int .i64 code) ty_one30 rfl (by rw [← f7]; exact st.c1 (by decide))) rfl rfl rfl ?_
              -- R18.8 169 := more.go:74 binOp
              refine WL.v (by first | exact r_neq rfl rfl (decide_eq_true (by omega)) | exact r_neq rfl rfl (decide_eq_false (by omega)) | exact r_neq rfl rfl rfl) rfl rfl rfl ?_
              -- R18.9 170 := more.go:74 pick
              refine WL.v (by first | exact r_pickT (v := .bool _) rfl rfl | exact r_pickF (v := .bool _) rfl rfl) rfl rfl rfl ?_
              -- R18.10 8 := more.go:74 assign
              refine WL.v (by first | exact r_assign (v := .bool _) rfl | exact r_assign rfl) rfl rfl rfl ?_
              refine WL.fin hK2203 (fun _ _ h => h) ?_
              refine WC.seq fun K2204 hK2204 => ?_
              -- region 19
              refine WC.region ?_
              -- R19.0 171 := more.go:75 move
              refine WL.v (by first | exact r_move (v := .bool _) rfl | exact r_move rfl) rfl rfl rfl ?_
              -- R19.1 172 := more.go:75 move
              refine WL.v (by first | exact r_move (v := .bool _) rfl | exact r_move rfl) rfl rfl rfl ?_
              -- R19.2 173 := more.go:75 move
              refine WL.no rfl rfl ?_
              -- R19.3 174 := more.go:75 fieldAddr
              refine WL.no rfl rfl ?_
              -- R19.4 175 := more.go:75 fieldAddr
              refine WL.no rfl rfl ?_
              -- R19.5 176 := more.go:75 load
              refine WL.no rfl rfl ?_
              -- R19.6 177 := more.go:75 binOp
              refine WL.no rfl rfl ?_
              -- R19.7 178 := more.go:75 binOp
              refine WL.no rfl rfl ?_
              -- R19.8 179 := more.go:75 pick
              refine WL.v (by first | exact r_pickT (v := .bool _) rfl rfl | exact r_pickF (v := .bool _) rfl rfl) rfl rfl rfl ?_
              refine WL.fin hK2204 (fun _ _ h => h) ?_
              refine WC.condF rfl rfl ?_
              refine WC.skipJ hKC (fun _ _ h => h) () (by rw [hcs]; exact st) (by repeat (first | exact sub_nil _ | refine sub_cons rfl rfl ?_))
            · skip
              refine WC.seq fun K2205 hK2205 => ?_
              -- region 6
              refine WC.region ?_
              -- R6.0 60 := more.go:62 fieldAddr
              refine WL.v (by exact r_field ty_fld36_0 rfl) rfl rfl rfl ?_
              -- R6.1 61 := more.go:62 fieldAddr
              refine WL.v (by exact r_field ty_fld28_0 rfl) rfl rfl rfl ?_
              -- R6.2 62 := more.go:62 load
              refine WL.v (by exact r_load1 (v := .int .u8 (o.kind : Nat)) ty_one25 rfl (by rw [← f0]; exact st.c1 (by decide))) rfl rfl rfl ?_
              refine WL.fin hK2205 (fun _ _ h => h) ?_
              refine WC.block ?_
              refine WC.seq fun K2206 hK2206 => ?_
              -- region 7
              refine WC.region ?_
              -- R7.0 64 := more.go:63 binOp
              refine WL.v (by first | exact r_eql rfl rfl (decide_eq_true (by omega)) | exact r_eql rfl rfl (decide_eq_false (by omega)) | exact r_eql rfl rfl rfl) rfl rfl rfl ?_
              -- R7.1 63 := more.go:63 assign
              refine WL.v (by first | exact r_assign (v := .bool _) rfl | exact r_assign rfl) rfl rfl rfl ?_
              refine WL.fin hK2206 (fun _ _ h => h) ?_
              refine WC.condF rfl rfl ?_
              refine WC.seq fun K2207 hK2207 => ?_
              refine WC.seq fun K2208 hK2208 => ?_
              -- region 14
              refine WC.region ?_
              -- R14.0 127 := more.go:72 binOp
              refine WL.v (by first | exact r_eql rfl rfl (decide_eq_true (by omega)) | exact r_eql rfl rfl (decide_eq_false (by omega)) | exact r_eql rfl rfl rfl) rfl rfl rfl ?_
              -- R14.1 126 := more.go:72 assign
              refine WL.v (by first | exact r_assign (v := .bool _) rfl | exact r_assign rfl) rfl rfl rfl ?_
              refine WL.fin hK2208 (fun _ _ h => h) ?_
              refine WC.condF rfl rfl ?_
              refine WC.seq fun K2209 hK2209 => ?_
              -- region 15
              refine WC.region ?_
              -- R15.0 128 := more.go:72 binOp
              refine WL.v (by first | exact r_eql rfl rfl (decide_eq_true (by omega)) | exact r_eql rfl rfl (decide_eq_false (by omega)) | exact r_eql rfl rfl rfl) rfl rfl rfl ?_
              -- R15.1 126 := more.go:72 assign
              refine WL.v (by first | exact r_assign (v := .bool _) rfl | exact r_assign rfl) rfl rfl rfl ?_
              refine WL.fin hK2209 (fun _ _ h => h) ?_
              refine WC.condT rfl rfl ?_
              refine WC.skipF hK2207 (fun _ _ h => h) ?_
              refine WC.condT rfl rfl ?_
              refine WC.seq fun K2210 hK2210 => ?_
              -- region 17 (draws)
              refine WC.quietS st ty_mixed (by kernel_rfl) fun Kq hKq => ?_
              -- R17.0 130 := more.go:73 fieldAddr
              refine QL.v (fun w st => by exact r_field ty_fld36_1 rfl) rfl rfl rfl ?_
              -- R17.1 131 := more.go:73 load
              refine QL.v (fun w st => by exact r_load1 (v := .pointer (some ⟨bB, 0, none⟩)) ty_one29 rfl (by rw [← f5]; exact st.c1 (by decide))) rfl rfl rfl ?_
              -- R17.2 132 := more.go:73 nilCheck
              refine QL.v (fun w st => by exact r_nilCheck rfl) rfl rfl rfl ?_
              -- R17.3 133 := more.go:73 fieldAddr
              refine QL.v (fun w st => by exact r_field ty_fld50_0 rfl) rfl rfl rfl ?_
              -- R17.4 134 := more.go:73 load
              refine QL.v (fun w st => by exact r_load1 (v := .int .i64 (s.mode : Nat)) ty_one40 rfl (c_s (hck2 _ _).B (by decide) rfl st)) rfl rfl rfl ?_
              -- R17.5 135 := more.go:73 binOp
              refine QL.v (fun w st => by first | exact r_eql rfl rfl (decide_eq_true (by omega)) | exact r_eql rfl rfl (decide_eq_false (by omega)) | exact r_eql rfl rfl rfl) rfl rfl rfl ?_
              -- R17.6 136 := more.go:73 move
              refine QL.v (fun w st => by first | exact r_move (v := .bool _) rfl | exact r_move rfl) rfl rfl rfl ?_
              -- R17.7 137 := more.go:73 fieldAddr
              refine QL.v (fun w st => by exact r_field ty_fld36_0 rfl) rfl rfl rfl ?_
              -- R17.8 138 := more.go:73 fieldAddr
              refine QL.v (fun w st => by exact r_field ty_fld28_3 rfl) rfl rfl rfl ?_
              -- R17.9 139 := more.go:73 load
              refine QL.v (fun w st => by exact r_load1 (v := .int .i64 o.C) ty_one2 rfl (by rw [← f3]; exact st.c1 (by decide))) rfl rfl rfl ?_
              -- R17.10 140 := more.go:73 fieldAddr
              refine QL.v (fun w st => by exact r_field ty_fld36_1 rfl) rfl rfl rfl ?_
              -- R17.11 141 := more.go:73 load
              refine QL.v (fun w st => by exact r_load1 (v := .pointer (some ⟨bB, 0, none⟩)) ty_one29 rfl (by rw [← f5]; exact st.c1 (by decide))) rfl rfl rfl ?_
              -- R17.12 142 := more.go:73 move
              refine QL.v (fun w st => by exact r_move (v := .int .i64 (t : Nat)) (congrArg (Value.int .i64) hT)) rfl rfl rfl ?_
              -- R17.13 143 := more.go:73 move
              refine QL.v (fun w st => by first | exact r_move (v := .int _ _) rfl | exact r_move rfl) rfl rfl rfl ?_
              -- R17.14 144 := more.go:73 nilCheck
              refine QL.v (fun w st => by exact r_nilCheck rfl) rfl rfl rfl ?_
              -- R17.15 145 := more.go:73 fieldAddr
              refine QL.v (fun w st => by exact r_field ty_fld50_5 rfl) rfl rfl rfl ?_
              -- R17.16 146 := more.go:73 indexAddr
              refine QL.v (fun w st => by exact r_indexA (j := t) ty_ar45 rfl rfl rfl ht16) rfl rfl rfl ?_
              -- R17.17 147 := more.go:73 indexAddr
              refine QL.v (fun w st => by exact r_indexA (j := r) ty_ar44 rfl rfl rfl hr20) rfl rfl rfl ?_
              -- R17.18 148 := more.go:73 load
              refine QL.v (fun w st => by exact r_load1 (v := .int .i64 (s.claim t r : Nat)) ty_one3 rfl (c_sC (hck2 _ _).B ht16 hr20 (by omega) st)) rfl rfl rfl ?_
              -- R17.19 149 := more.go:73 fieldAddr
              refine QL.v (fun w st => by exact r_field ty_fld36_1 rfl) rfl rfl rfl ?_
              -- R17.20 150 := more.go:73 load
              refine QL.v (fun w st => by exact r_load1 (v := .pointer (some ⟨bB, 0, none⟩)) ty_one29 rfl (by rw [← f5]; exact st.c1 (by decide))) rfl rfl rfl ?_
              -- R17.21 151 := more.go:73 move
              refine QL.v (fun w st => by exact r_move (v := .int .i64 (t : Nat)) (congrArg (Value.int .i64) hT)) rfl rfl rfl ?_
              -- R17.22 152 := more.go:73 move
              refine QL.v (fun w st => by first | exact r_move (v := .int _ _) rfl | exact r_move rfl) rfl rfl rfl ?_
              -- R17.23 153 := more.go:73 nilCheck
              refine QL.v (fun w st => by exact r_nilCheck rfl) rfl rfl rfl ?_
              -- R17.24 154 := more.go:73 fieldAddr
              refine QL.v (fun w st => by exact r_field ty_fld50_4 rfl) rfl rfl rfl ?_
              -- R17.25 155 := more.go:73 indexAddr
              refine QL.v (fun w st => by exact r_indexA (j := t) ty_ar45 rfl rfl rfl ht16) rfl rfl rfl ?_
              -- R17.26 156 := more.go:73 indexAddr
              refine QL.v (fun w st => by exact r_indexA (j := r) ty_ar44 rfl rfl rfl hr20) rfl rfl rfl ?_
              -- R17.27 157 := more.go:73 load
              refine QL.v (fun w st => by exact r_load1 (v := .int .i64 (s.held t r : Nat)) ty_one3 rfl (c_sH (hck2 _ _).B ht16 hr20 (by omega) st)) rfl rfl rfl ?_
              -- R17.28 158 := more.go:73 binOp
              refine QL.v (fun w st => by exact r_sub (r := (s.claim t r : Int) - s.held t r) rfl rfl (wi64 (by omega) (by omega))) rfl rfl rfl ?_
              -- R17.29 159 := more.go:73 binOp
              refine QL.v (fun w st => by exact r_gtr rfl rfl (decide_eq_false hnc)) rfl rfl rfl ?_
              -- R17.30 160 := more.go:73 pick
              refine QL.v (fun w st => by first | exact r_pickT (v := .bool _) rfl rfl | exact r_pickF (v := .bool _) rfl rfl) rfl rfl rfl ?_
              -- R17.31 7 := more.go:73 assign
              refine QL.v (fun w st => by first | exact r_assign (v := .bool _) rfl | exact r_assign rfl) rfl rfl rfl ?_
              refine QL.wl hKq fun w st => ?_
              refine WL.fin hK2210 (fun _ _ h => h) ?_
              refine WC.seq fun K2211 hK2211 => ?_
              -- region 18
              refine WC.region ?_
              -- R18.0 161 := more.go:74 fieldAddr
              refine WL.v (by exact r_field ty_fld36_3 rfl) rfl rfl rfl ?_
              -- R18.1 162 := more.go:74 fieldAddr
              refine WL.v (by exact r_field ty_fld34_0 rfl) rfl rfl rfl ?_
              -- R18.2 163 := more.go:74 load
              refine WL.v (by exact r_load1 (v := .int .i64 code) ty_one30 rfl (by rw [← f7]; exact st.c1 (by decide))) rfl rfl rfl ?_
              -- R18.3 164 := more.go:74 binOp
              refine WL.v (by first | exact r_neq rfl rfl (decide_eq_true (by omega)) | exact r_neq rfl rfl (decide_eq_false (by omega)) | exact r_neq rfl rfl rfl) rfl rfl rfl ?_
              -- R18.4 165 := more.go:74 move
              refine WL.v (by first | exact r_move (v := .bool _) rfl | exact r_move rfl) rfl rfl rfl ?_
              -- R18.5 166 := more.go:74 fieldAddr
              refine WL.v (by exact r_field ty_fld36_3 rfl) rfl rfl rfl ?_
              -- R18.6 167 := more.go:74 fieldAddr
              refine WL.v (by exact r_field ty_fld34_0 rfl) rfl rfl rfl ?_
              -- R18.7 168 := more.go:74 load
              refine WL.v (by exact r_load1 (v := .int .i64 code) ty_one30 rfl (by rw [← f7]; exact st.c1 (by decide))) rfl rfl rfl ?_
              -- R18.8 169 := more.go:74 binOp
              refine WL.v (by first | exact r_neq rfl rfl (decide_eq_true (by omega)) | exact r_neq rfl rfl (decide_eq_false (by omega)) | exact r_neq rfl rfl rfl) rfl rfl rfl ?_
              -- R18.9 170 := more.go:74 pick
              refine WL.v (by first | exact r_pickT (v := .bool _) rfl rfl | exact r_pickF (v := .bool _) rfl rfl) rfl rfl rfl ?_
              -- R18.10 8 := more.go:74 assign
              refine WL.v (by first | exact r_assign (v := .bool _) rfl | exact r_assign rfl) rfl rfl rfl ?_
              refine WL.fin hK2211 (fun _ _ h => h) ?_
              refine WC.seq fun K2212 hK2212 => ?_
              -- region 19
              refine WC.region ?_
              -- R19.0 171 := more.go:75 move
              refine WL.v (by first | exact r_move (v := .bool _) rfl | exact r_move rfl) rfl rfl rfl ?_
              -- R19.1 172 := more.go:75 move
              refine WL.v (by first | exact r_move (v := .bool _) rfl | exact r_move rfl) rfl rfl rfl ?_
              -- R19.2 173 := more.go:75 move
              refine WL.no rfl rfl ?_
              -- R19.3 174 := more.go:75 fieldAddr
              refine WL.no rfl rfl ?_
              -- R19.4 175 := more.go:75 fieldAddr
              refine WL.no rfl rfl ?_
              -- R19.5 176 := more.go:75 load
              refine WL.no rfl rfl ?_
              -- R19.6 177 := more.go:75 binOp
              refine WL.no rfl rfl ?_
              -- R19.7 178 := more.go:75 binOp
              refine WL.no rfl rfl ?_
              -- R19.8 179 := more.go:75 pick
              refine WL.v (by first | exact r_pickT (v := .bool _) rfl rfl | exact r_pickF (v := .bool _) rfl rfl) rfl rfl rfl ?_
              refine WL.fin hK2212 (fun _ _ h => h) ?_
              refine WC.condF rfl rfl ?_
              refine WC.skipJ hKC (fun _ _ h => h) () (by rw [hcs]; exact st) (by repeat (first | exact sub_nil _ | refine sub_cons rfl rfl ?_))
            · skip
              refine WC.seq fun K2213 hK2213 => ?_
              -- region 6
              refine WC.region ?_
              -- R6.0 60 := more.go:62 fieldAddr
              refine WL.v (by exact r_field ty_fld36_0 rfl) rfl rfl rfl ?_
              -- R6.1 61 := more.go:62 fieldAddr
              refine WL.v (by exact r_field ty_fld28_0 rfl) rfl rfl rfl ?_
              -- R6.2 62 := more.go:62 load
              refine WL.v (by exact r_load1 (v := .int .u8 (o.kind : Nat)) ty_one25 rfl (by rw [← f0]; exact st.c1 (by decide))) rfl rfl rfl ?_
              refine WL.fin hK2213 (fun _ _ h => h) ?_
              refine WC.block ?_
              refine WC.seq fun K2214 hK2214 => ?_
              -- region 7
              refine WC.region ?_
              -- R7.0 64 := more.go:63 binOp
              refine WL.v (by first | exact r_eql rfl rfl (decide_eq_true (by omega)) | exact r_eql rfl rfl (decide_eq_false (by omega)) | exact r_eql rfl rfl rfl) rfl rfl rfl ?_
              -- R7.1 63 := more.go:63 assign
              refine WL.v (by first | exact r_assign (v := .bool _) rfl | exact r_assign rfl) rfl rfl rfl ?_
              refine WL.fin hK2214 (fun _ _ h => h) ?_
              refine WC.condF rfl rfl ?_
              refine WC.seq fun K2215 hK2215 => ?_
              refine WC.seq fun K2216 hK2216 => ?_
              -- region 14
              refine WC.region ?_
              -- R14.0 127 := more.go:72 binOp
              refine WL.v (by first | exact r_eql rfl rfl (decide_eq_true (by omega)) | exact r_eql rfl rfl (decide_eq_false (by omega)) | exact r_eql rfl rfl rfl) rfl rfl rfl ?_
              -- R14.1 126 := more.go:72 assign
              refine WL.v (by first | exact r_assign (v := .bool _) rfl | exact r_assign rfl) rfl rfl rfl ?_
              refine WL.fin hK2216 (fun _ _ h => h) ?_
              refine WC.condF rfl rfl ?_
              refine WC.seq fun K2217 hK2217 => ?_
              -- region 15
              refine WC.region ?_
              -- R15.0 128 := more.go:72 binOp
              refine WL.v (by first | exact r_eql rfl rfl (decide_eq_true (by omega)) | exact r_eql rfl rfl (decide_eq_false (by omega)) | exact r_eql rfl rfl rfl) rfl rfl rfl ?_
              -- R15.1 126 := more.go:72 assign
              refine WL.v (by first | exact r_assign (v := .bool _) rfl | exact r_assign rfl) rfl rfl rfl ?_
              refine WL.fin hK2217 (fun _ _ h => h) ?_
              refine WC.condF rfl rfl ?_
              -- region 16
              refine WC.region ?_
              -- R16.0 129 := more.go:72 binOp
              refine WL.v (by first | exact r_eql rfl rfl (decide_eq_true (by omega)) | exact r_eql rfl rfl (decide_eq_false (by omega)) | exact r_eql rfl rfl rfl) rfl rfl rfl ?_
              -- R16.1 126 := more.go:72 assign
              refine WL.v (by first | exact r_assign (v := .bool _) rfl | exact r_assign rfl) rfl rfl rfl ?_
              refine WL.fin hK2215 (fun _ _ h => h) ?_
              refine WC.condT rfl rfl ?_
              refine WC.seq fun K2218 hK2218 => ?_
              -- region 17 (draws)
              refine WC.quietS st ty_mixed (by kernel_rfl) fun Kq hKq => ?_
              -- R17.0 130 := more.go:73 fieldAddr
              refine QL.v (fun w st => by exact r_field ty_fld36_1 rfl) rfl rfl rfl ?_
              -- R17.1 131 := more.go:73 load
              refine QL.v (fun w st => by exact r_load1 (v := .pointer (some ⟨bB, 0, none⟩)) ty_one29 rfl (by rw [← f5]; exact st.c1 (by decide))) rfl rfl rfl ?_
              -- R17.2 132 := more.go:73 nilCheck
              refine QL.v (fun w st => by exact r_nilCheck rfl) rfl rfl rfl ?_
              -- R17.3 133 := more.go:73 fieldAddr
              refine QL.v (fun w st => by exact r_field ty_fld50_0 rfl) rfl rfl rfl ?_
              -- R17.4 134 := more.go:73 load
              refine QL.v (fun w st => by exact r_load1 (v := .int .i64 (s.mode : Nat)) ty_one40 rfl (c_s (hck2 _ _).B (by decide) rfl st)) rfl rfl rfl ?_
              -- R17.5 135 := more.go:73 binOp
              refine QL.v (fun w st => by first | exact r_eql rfl rfl (decide_eq_true (by omega)) | exact r_eql rfl rfl (decide_eq_false (by omega)) | exact r_eql rfl rfl rfl) rfl rfl rfl ?_
              -- R17.6 136 := more.go:73 move
              refine QL.v (fun w st => by first | exact r_move (v := .bool _) rfl | exact r_move rfl) rfl rfl rfl ?_
              -- R17.7 137 := more.go:73 fieldAddr
              refine QL.v (fun w st => by exact r_field ty_fld36_0 rfl) rfl rfl rfl ?_
              -- R17.8 138 := more.go:73 fieldAddr
              refine QL.v (fun w st => by exact r_field ty_fld28_3 rfl) rfl rfl rfl ?_
              -- R17.9 139 := more.go:73 load
              refine QL.v (fun w st => by exact r_load1 (v := .int .i64 o.C) ty_one2 rfl (by rw [← f3]; exact st.c1 (by decide))) rfl rfl rfl ?_
              -- R17.10 140 := more.go:73 fieldAddr
              refine QL.v (fun w st => by exact r_field ty_fld36_1 rfl) rfl rfl rfl ?_
              -- R17.11 141 := more.go:73 load
              refine QL.v (fun w st => by exact r_load1 (v := .pointer (some ⟨bB, 0, none⟩)) ty_one29 rfl (by rw [← f5]; exact st.c1 (by decide))) rfl rfl rfl ?_
              -- R17.12 142 := more.go:73 move
              refine QL.v (fun w st => by exact r_move (v := .int .i64 (t : Nat)) (congrArg (Value.int .i64) hT)) rfl rfl rfl ?_
              -- R17.13 143 := more.go:73 move
              refine QL.v (fun w st => by first | exact r_move (v := .int _ _) rfl | exact r_move rfl) rfl rfl rfl ?_
              -- R17.14 144 := more.go:73 nilCheck
              refine QL.v (fun w st => by exact r_nilCheck rfl) rfl rfl rfl ?_
              -- R17.15 145 := more.go:73 fieldAddr
              refine QL.v (fun w st => by exact r_field ty_fld50_5 rfl) rfl rfl rfl ?_
              -- R17.16 146 := more.go:73 indexAddr
              refine QL.v (fun w st => by exact r_indexA (j := t) ty_ar45 rfl rfl rfl ht16) rfl rfl rfl ?_
              -- R17.17 147 := more.go:73 indexAddr
              refine QL.v (fun w st => by exact r_indexA (j := r) ty_ar44 rfl rfl rfl hr20) rfl rfl rfl ?_
              -- R17.18 148 := more.go:73 load
              refine QL.v (fun w st => by exact r_load1 (v := .int .i64 (s.claim t r : Nat)) ty_one3 rfl (c_sC (hck2 _ _).B ht16 hr20 (by omega) st)) rfl rfl rfl ?_
              -- R17.19 149 := more.go:73 fieldAddr
              refine QL.v (fun w st => by exact r_field ty_fld36_1 rfl) rfl rfl rfl ?_
              -- R17.20 150 := more.go:73 load
              refine QL.v (fun w st => by exact r_load1 (v := .pointer (some ⟨bB, 0, none⟩)) ty_one29 rfl (by rw [← f5]; exact st.c1 (by decide))) rfl rfl rfl ?_
              -- R17.21 151 := more.go:73 move
              refine QL.v (fun w st => by exact r_move (v := .int .i64 (t : Nat)) (congrArg (Value.int .i64) hT)) rfl rfl rfl ?_
              -- R17.22 152 := more.go:73 move
              refine QL.v (fun w st => by first | exact r_move (v := .int _ _) rfl | exact r_move rfl) rfl rfl rfl ?_
              -- R17.23 153 := more.go:73 nilCheck
              refine QL.v (fun w st => by exact r_nilCheck rfl) rfl rfl rfl ?_
              -- R17.24 154 := more.go:73 fieldAddr
              refine QL.v (fun w st => by exact r_field ty_fld50_4 rfl) rfl rfl rfl ?_
              -- R17.25 155 := more.go:73 indexAddr
              refine QL.v (fun w st => by exact r_indexA (j := t) ty_ar45 rfl rfl rfl ht16) rfl rfl rfl ?_
              -- R17.26 156 := more.go:73 indexAddr
              refine QL.v (fun w st => by exact r_indexA (j := r) ty_ar44 rfl rfl rfl hr20) rfl rfl rfl ?_
              -- R17.27 157 := more.go:73 load
              refine QL.v (fun w st => by exact r_load1 (v := .int .i64 (s.held t r : Nat)) ty_one3 rfl (c_sH (hck2 _ _).B ht16 hr20 (by omega) st)) rfl rfl rfl ?_
              -- R17.28 158 := more.go:73 binOp
              refine QL.v (fun w st => by exact r_sub (r := (s.claim t r : Int) - s.held t r) rfl rfl (wi64 (by omega) (by omega))) rfl rfl rfl ?_
              -- R17.29 159 := more.go:73 binOp
              refine QL.v (fun w st => by exact r_gtr rfl rfl (decide_eq_false hnc)) rfl rfl rfl ?_
              -- R17.30 160 := more.go:73 pick
              refine QL.v (fun w st => by first | exact r_pickT (v := .bool _) rfl rfl | exact r_pickF (v := .bool _) rfl rfl) rfl rfl rfl ?_
              -- R17.31 7 := more.go:73 assign
              refine QL.v (fun w st => by first | exact r_assign (v := .bool _) rfl | exact r_assign rfl) rfl rfl rfl ?_
              refine QL.wl hKq fun w st => ?_
              refine WL.fin hK2218 (fun _ _ h => h) ?_
              refine WC.seq fun K2219 hK2219 => ?_
              -- region 18
              refine WC.region ?_
              -- R18.0 161 := more.go:74 fieldAddr
              refine WL.v (by exact r_field ty_fld36_3 rfl) rfl rfl rfl ?_
              -- R18.1 162 := more.go:74 fieldAddr
              refine WL.v (by exact r_field ty_fld34_0 rfl) rfl rfl rfl ?_
              -- R18.2 163 := more.go:74 load
              refine WL.v (by exact r_load1 (v := .int .i64 code) ty_one30 rfl (by rw [← f7]; exact st.c1 (by decide))) rfl rfl rfl ?_
              -- R18.3 164 := more.go:74 binOp
              refine WL.v (by first | exact r_neq rfl rfl (decide_eq_true (by omega)) | exact r_neq rfl rfl (decide_eq_false (by omega)) | exact r_neq rfl rfl rfl) rfl rfl rfl ?_
              -- R18.4 165 := more.go:74 move
              refine WL.v (by first | exact r_move (v := .bool _) rfl | exact r_move rfl) rfl rfl rfl ?_
              -- R18.5 166 := more.go:74 fieldAddr
              refine WL.v (by exact r_field ty_fld36_3 rfl) rfl rfl rfl ?_
              -- R18.6 167 := more.go:74 fieldAddr
              refine WL.v (by exact r_field ty_fld34_0 rfl) rfl rfl rfl ?_
              -- R18.7 168 := more.go:74 load
              refine WL.v (by exact r_load1 (v := .int .i64 code) ty_one30 rfl (by rw [← f7]; exact st.c1 (by decide))) rfl rfl rfl ?_
              -- R18.8 169 := more.go:74 binOp
              refine WL.v (by first | exact r_neq rfl rfl (decide_eq_true (by omega)) | exact r_neq rfl rfl (decide_eq_false (by omega)) | exact r_neq rfl rfl rfl) rfl rfl rfl ?_
              -- R18.9 170 := more.go:74 pick
              refine WL.v (by first | exact r_pickT (v := .bool _) rfl rfl | exact r_pickF (v := .bool _) rfl rfl) rfl rfl rfl ?_
              -- R18.10 8 := more.go:74 assign
              refine WL.v (by first | exact r_assign (v := .bool _) rfl | exact r_assign rfl) rfl rfl rfl ?_
              refine WL.fin hK2219 (fun _ _ h => h) ?_
              refine WC.seq fun K2220 hK2220 => ?_
              -- region 19
              refine WC.region ?_
              -- R19.0 171 := more.go:75 move
              refine WL.v (by first | exact r_move (v := .bool _) rfl | exact r_move rfl) rfl rfl rfl ?_
              -- R19.1 172 := more.go:75 move
              refine WL.v (by first | exact r_move (v := .bool _) rfl | exact r_move rfl) rfl rfl rfl ?_
              -- R19.2 173 := more.go:75 move
              refine WL.no rfl rfl ?_
              -- R19.3 174 := more.go:75 fieldAddr
              refine WL.no rfl rfl ?_
              -- R19.4 175 := more.go:75 fieldAddr
              refine WL.no rfl rfl ?_
              -- R19.5 176 := more.go:75 load
              refine WL.no rfl rfl ?_
              -- R19.6 177 := more.go:75 binOp
              refine WL.no rfl rfl ?_
              -- R19.7 178 := more.go:75 binOp
              refine WL.no rfl rfl ?_
              -- R19.8 179 := more.go:75 pick
              refine WL.v (by first | exact r_pickT (v := .bool _) rfl rfl | exact r_pickF (v := .bool _) rfl rfl) rfl rfl rfl ?_
              refine WL.fin hK2220 (fun _ _ h => h) ?_
              refine WC.condF rfl rfl ?_
              refine WC.skipJ hKC (fun _ _ h => h) () (by rw [hcs]; exact st) (by repeat (first | exact sub_nil _ | refine sub_cons rfl rfl ?_))
          have hiff := ha' h14 h15
          have h21 : code ≠ 21 := fun k => hnc (hiff.2 k).2
          rcases (by omega : o.kind = 3 ∨ o.kind = 4 ∨ o.kind = 5) with hk3 | hk4 | hk5
          · skip
            refine WC.seq fun K2221 hK2221 => ?_
            -- region 6
            refine WC.region ?_
            -- R6.0 60 := more.go:62 fieldAddr
            refine WL.v (by exact r_field ty_fld36_0 rfl) rfl rfl rfl ?_
            -- R6.1 61 := more.go:62 fieldAddr
            refine WL.v (by exact r_field ty_fld28_0 rfl) rfl rfl rfl ?_
            -- R6.2 62 := more.go:62 load
            refine WL.v (by exact r_load1 (v := .int .u8 (o.kind : Nat)) ty_one25 rfl (by rw [← f0]; exact st.c1 (by decide))) rfl rfl rfl ?_
            refine WL.fin hK2221 (fun _ _ h => h) ?_
            refine WC.block ?_
            refine WC.seq fun K2222 hK2222 => ?_
            -- region 7
            refine WC.region ?_
            -- R7.0 64 := more.go:63 binOp
            refine WL.v (by first | exact r_eql rfl rfl (decide_eq_true (by omega)) | exact r_eql rfl rfl (decide_eq_false (by omega)) | exact r_eql rfl rfl rfl) rfl rfl rfl ?_
            -- R7.1 63 := more.go:63 assign
            refine WL.v (by first | exact r_assign (v := .bool _) rfl | exact r_assign rfl) rfl rfl rfl ?_
            refine WL.fin hK2222 (fun _ _ h => h) ?_
            refine WC.condF rfl rfl ?_
            refine WC.seq fun K2223 hK2223 => ?_
            refine WC.seq fun K2224 hK2224 => ?_
            -- region 14
            refine WC.region ?_
            -- R14.0 127 := more.go:72 binOp
            refine WL.v (by first | exact r_eql rfl rfl (decide_eq_true (by omega)) | exact r_eql rfl rfl (decide_eq_false (by omega)) | exact r_eql rfl rfl rfl) rfl rfl rfl ?_
            -- R14.1 126 := more.go:72 assign
            refine WL.v (by first | exact r_assign (v := .bool _) rfl | exact r_assign rfl) rfl rfl rfl ?_
            refine WL.fin hK2224 (fun _ _ h => h) ?_
            refine WC.condT rfl rfl ?_
            refine WC.skipF hK2223 (fun _ _ h => h) ?_
            refine WC.condT rfl rfl ?_
            refine WC.seq fun K2225 hK2225 => ?_
            -- region 17 (draws)
            refine WC.quietS st ty_mixed (by kernel_rfl) fun Kq hKq => ?_
            -- R17.0 130 := more.go:73 fieldAddr
            refine QL.v (fun w st => by exact r_field ty_fld36_1 rfl) rfl rfl rfl ?_
            -- R17.1 131 := more.go:73 load
            refine QL.v (fun w st => by exact r_load1 (v := .pointer (some ⟨bB, 0, none⟩)) ty_one29 rfl (by rw [← f5]; exact st.c1 (by decide))) rfl rfl rfl ?_
            -- R17.2 132 := more.go:73 nilCheck
            refine QL.v (fun w st => by exact r_nilCheck rfl) rfl rfl rfl ?_
            -- R17.3 133 := more.go:73 fieldAddr
            refine QL.v (fun w st => by exact r_field ty_fld50_0 rfl) rfl rfl rfl ?_
            -- R17.4 134 := more.go:73 load
            refine QL.v (fun w st => by exact r_load1 (v := .int .i64 (s.mode : Nat)) ty_one40 rfl (c_s (hck2 _ _).B (by decide) rfl st)) rfl rfl rfl ?_
            -- R17.5 135 := more.go:73 binOp
            refine QL.v (fun w st => by first | exact r_eql rfl rfl (decide_eq_true (by omega)) | exact r_eql rfl rfl (decide_eq_false (by omega)) | exact r_eql rfl rfl rfl) rfl rfl rfl ?_
            -- R17.6 136 := more.go:73 move
            refine QL.v (fun w st => by first | exact r_move (v := .bool _) rfl | exact r_move rfl) rfl rfl rfl ?_
            -- R17.7 137 := more.go:73 fieldAddr
            refine QL.v (fun w st => by exact r_field ty_fld36_0 rfl) rfl rfl rfl ?_
            -- R17.8 138 := more.go:73 fieldAddr
            refine QL.v (fun w st => by exact r_field ty_fld28_3 rfl) rfl rfl rfl ?_
            -- R17.9 139 := more.go:73 load
            refine QL.v (fun w st => by exact r_load1 (v := .int .i64 o.C) ty_one2 rfl (by rw [← f3]; exact st.c1 (by decide))) rfl rfl rfl ?_
            -- R17.10 140 := more.go:73 fieldAddr
            refine QL.v (fun w st => by exact r_field ty_fld36_1 rfl) rfl rfl rfl ?_
            -- R17.11 141 := more.go:73 load
            refine QL.v (fun w st => by exact r_load1 (v := .pointer (some ⟨bB, 0, none⟩)) ty_one29 rfl (by rw [← f5]; exact st.c1 (by decide))) rfl rfl rfl ?_
            -- R17.12 142 := more.go:73 move
            refine QL.v (fun w st => by exact r_move (v := .int .i64 (t : Nat)) (congrArg (Value.int .i64) hT)) rfl rfl rfl ?_
            -- R17.13 143 := more.go:73 move
            refine QL.v (fun w st => by first | exact r_move (v := .int _ _) rfl | exact r_move rfl) rfl rfl rfl ?_
            -- R17.14 144 := more.go:73 nilCheck
            refine QL.v (fun w st => by exact r_nilCheck rfl) rfl rfl rfl ?_
            -- R17.15 145 := more.go:73 fieldAddr
            refine QL.v (fun w st => by exact r_field ty_fld50_5 rfl) rfl rfl rfl ?_
            -- R17.16 146 := more.go:73 indexAddr
            refine QL.v (fun w st => by exact r_indexA (j := t) ty_ar45 rfl rfl rfl ht16) rfl rfl rfl ?_
            -- R17.17 147 := more.go:73 indexAddr
            refine QL.v (fun w st => by exact r_indexA (j := r) ty_ar44 rfl rfl rfl hr20) rfl rfl rfl ?_
            -- R17.18 148 := more.go:73 load
            refine QL.v (fun w st => by exact r_load1 (v := .int .i64 (s.claim t r : Nat)) ty_one3 rfl (c_sC (hck2 _ _).B ht16 hr20 (by omega) st)) rfl rfl rfl ?_
            -- R17.19 149 := more.go:73 fieldAddr
            refine QL.v (fun w st => by exact r_field ty_fld36_1 rfl) rfl rfl rfl ?_
            -- R17.20 150 := more.go:73 load
            refine QL.v (fun w st => by exact r_load1 (v := .pointer (some ⟨bB, 0, none⟩)) ty_one29 rfl (by rw [← f5]; exact st.c1 (by decide))) rfl rfl rfl ?_
            -- R17.21 151 := more.go:73 move
            refine QL.v (fun w st => by exact r_move (v := .int .i64 (t : Nat)) (congrArg (Value.int .i64) hT)) rfl rfl rfl ?_
            -- R17.22 152 := more.go:73 move
            refine QL.v (fun w st => by first | exact r_move (v := .int _ _) rfl | exact r_move rfl) rfl rfl rfl ?_
            -- R17.23 153 := more.go:73 nilCheck
            refine QL.v (fun w st => by exact r_nilCheck rfl) rfl rfl rfl ?_
            -- R17.24 154 := more.go:73 fieldAddr
            refine QL.v (fun w st => by exact r_field ty_fld50_4 rfl) rfl rfl rfl ?_
            -- R17.25 155 := more.go:73 indexAddr
            refine QL.v (fun w st => by exact r_indexA (j := t) ty_ar45 rfl rfl rfl ht16) rfl rfl rfl ?_
            -- R17.26 156 := more.go:73 indexAddr
            refine QL.v (fun w st => by exact r_indexA (j := r) ty_ar44 rfl rfl rfl hr20) rfl rfl rfl ?_
            -- R17.27 157 := more.go:73 load
            refine QL.v (fun w st => by exact r_load1 (v := .int .i64 (s.held t r : Nat)) ty_one3 rfl (c_sH (hck2 _ _).B ht16 hr20 (by omega) st)) rfl rfl rfl ?_
            -- R17.28 158 := more.go:73 binOp
            refine QL.v (fun w st => by exact r_sub (r := (s.claim t r : Int) - s.held t r) rfl rfl (wi64 (by omega) (by omega))) rfl rfl rfl ?_
            -- R17.29 159 := more.go:73 binOp
            refine QL.v (fun w st => by exact r_gtr rfl rfl (decide_eq_false hnc)) rfl rfl rfl ?_
            -- R17.30 160 := more.go:73 pick
            refine QL.v (fun w st => by first | exact r_pickT (v := .bool _) rfl rfl | exact r_pickF (v := .bool _) rfl rfl) rfl rfl rfl ?_
            -- R17.31 7 := more.go:73 assign
            refine QL.v (fun w st => by first | exact r_assign (v := .bool _) rfl | exact r_assign rfl) rfl rfl rfl ?_
            refine QL.wl hKq fun w st => ?_
            refine WL.fin hK2225 (fun _ _ h => h) ?_
            refine WC.seq fun K2226 hK2226 => ?_
            -- region 18
            refine WC.region ?_
            -- R18.0 161 := more.go:74 fieldAddr
            refine WL.v (by exact r_field ty_fld36_3 rfl) rfl rfl rfl ?_
            -- R18.1 162 := more.go:74 fieldAddr
            refine WL.v (by exact r_field ty_fld34_0 rfl) rfl rfl rfl ?_
            -- R18.2 163 := more.go:74 load
            refine WL.v (by exact r_load1 (v := .int .i64 code) ty_one30 rfl (by rw [← f7]; exact st.c1 (by decide))) rfl rfl rfl ?_
            -- R18.3 164 := more.go:74 binOp
            refine WL.v (by first | exact r_neq rfl rfl (decide_eq_true (by omega)) | exact r_neq rfl rfl (decide_eq_false (by omega)) | exact r_neq rfl rfl rfl) rfl rfl rfl ?_
            -- R18.4 165 := more.go:74 move
            refine WL.v (by first | exact r_move (v := .bool _) rfl | exact r_move rfl) rfl rfl rfl ?_
            -- R18.5 166 := more.go:74 fieldAddr
            refine WL.v (by exact r_field ty_fld36_3 rfl) rfl rfl rfl ?_
            -- R18.6 167 := more.go:74 fieldAddr
            refine WL.v (by exact r_field ty_fld34_0 rfl) rfl rfl rfl ?_
            -- R18.7 168 := more.go:74 load
            refine WL.v (by exact r_load1 (v := .int .i64 code) ty_one30 rfl (by rw [← f7]; exact st.c1 (by decide))) rfl rfl rfl ?_
            -- R18.8 169 := more.go:74 binOp
            refine WL.v (by first | exact r_neq rfl rfl (decide_eq_true (by omega)) | exact r_neq rfl rfl (decide_eq_false (by omega)) | exact r_neq rfl rfl rfl) rfl rfl rfl ?_
            -- R18.9 170 := more.go:74 pick
            refine WL.v (by first | exact r_pickT (v := .bool _) rfl rfl | exact r_pickF (v := .bool _) rfl rfl) rfl rfl rfl ?_
            -- R18.10 8 := more.go:74 assign
            refine WL.v (by first | exact r_assign (v := .bool _) rfl | exact r_assign rfl) rfl rfl rfl ?_
            refine WL.fin hK2226 (fun _ _ h => h) ?_
            refine WC.seq fun K2227 hK2227 => ?_
            -- region 19
            refine WC.region ?_
            -- R19.0 171 := more.go:75 move
            refine WL.v (by first | exact r_move (v := .bool _) rfl | exact r_move rfl) rfl rfl rfl ?_
            -- R19.1 172 := more.go:75 move
            refine WL.v (by first | exact r_move (v := .bool _) rfl | exact r_move rfl) rfl rfl rfl ?_
            -- R19.2 173 := more.go:75 move
            refine WL.v (by first | exact r_move (v := .bool _) rfl | exact r_move rfl) rfl rfl rfl ?_
            -- R19.3 174 := more.go:75 fieldAddr
            refine WL.v (by exact r_field ty_fld36_3 rfl) rfl rfl rfl ?_
            -- R19.4 175 := more.go:75 fieldAddr
            refine WL.v (by exact r_field ty_fld34_0 rfl) rfl rfl rfl ?_
            -- R19.5 176 := more.go:75 load
            refine WL.v (by exact r_load1 (v := .int .i64 code) ty_one30 rfl (by rw [← f7]; exact st.c1 (by decide))) rfl rfl rfl ?_
            -- R19.6 177 := more.go:75 binOp
            refine WL.v (by first | exact r_eql rfl rfl (decide_eq_true (by omega)) | exact r_eql rfl rfl (decide_eq_false (by omega)) | exact r_eql rfl rfl rfl) rfl rfl rfl ?_
            -- R19.7 178 := more.go:75 binOp
            refine WL.v (by exact r_bneq ty_bool4 rfl rfl rfl) rfl rfl rfl ?_
            -- R19.8 179 := more.go:75 pick
            refine WL.v (by first | exact r_pickT (v := .bool _) rfl rfl | exact r_pickF (v := .bool _) rfl rfl) rfl rfl rfl ?_
            refine WL.fin hK2227 (fun _ _ h => h) ?_
            refine WC.condF rfl rfl ?_
            refine WC.skipJ hKC (fun _ _ h => h) () (by rw [hcs]; exact st) (by repeat (first | exact sub_nil _ | refine sub_cons rfl rfl ?_))
          · skip
            refine WC.seq fun K2228 hK2228 => ?_
            -- region 6
            refine WC.region ?_
            -- R6.0 60 := more.go:62 fieldAddr
            refine WL.v (by exact r_field ty_fld36_0 rfl) rfl rfl rfl ?_
            -- R6.1 61 := more.go:62 fieldAddr
            refine WL.v (by exact r_field ty_fld28_0 rfl) rfl rfl rfl ?_
            -- R6.2 62 := more.go:62 load
            refine WL.v (by exact r_load1 (v := .int .u8 (o.kind : Nat)) ty_one25 rfl (by rw [← f0]; exact st.c1 (by decide))) rfl rfl rfl ?_
            refine WL.fin hK2228 (fun _ _ h => h) ?_
            refine WC.block ?_
            refine WC.seq fun K2229 hK2229 => ?_
            -- region 7
            refine WC.region ?_
            -- R7.0 64 := more.go:63 binOp
            refine WL.v (by first | exact r_eql rfl rfl (decide_eq_true (by omega)) | exact r_eql rfl rfl (decide_eq_false (by omega)) | exact r_eql rfl rfl rfl) rfl rfl rfl ?_
            -- R7.1 63 := more.go:63 assign
            refine WL.v (by first | exact r_assign (v := .bool _) rfl | exact r_assign rfl) rfl rfl rfl ?_
            refine WL.fin hK2229 (fun _ _ h => h) ?_
            refine WC.condF rfl rfl ?_
            refine WC.seq fun K2230 hK2230 => ?_
            refine WC.seq fun K2231 hK2231 => ?_
            -- region 14
            refine WC.region ?_
            -- R14.0 127 := more.go:72 binOp
            refine WL.v (by first | exact r_eql rfl rfl (decide_eq_true (by omega)) | exact r_eql rfl rfl (decide_eq_false (by omega)) | exact r_eql rfl rfl rfl) rfl rfl rfl ?_
            -- R14.1 126 := more.go:72 assign
            refine WL.v (by first | exact r_assign (v := .bool _) rfl | exact r_assign rfl) rfl rfl rfl ?_
            refine WL.fin hK2231 (fun _ _ h => h) ?_
            refine WC.condF rfl rfl ?_
            refine WC.seq fun K2232 hK2232 => ?_
            -- region 15
            refine WC.region ?_
            -- R15.0 128 := more.go:72 binOp
            refine WL.v (by first | exact r_eql rfl rfl (decide_eq_true (by omega)) | exact r_eql rfl rfl (decide_eq_false (by omega)) | exact r_eql rfl rfl rfl) rfl rfl rfl ?_
            -- R15.1 126 := more.go:72 assign
            refine WL.v (by first | exact r_assign (v := .bool _) rfl | exact r_assign rfl) rfl rfl rfl ?_
            refine WL.fin hK2232 (fun _ _ h => h) ?_
            refine WC.condT rfl rfl ?_
            refine WC.skipF hK2230 (fun _ _ h => h) ?_
            refine WC.condT rfl rfl ?_
            refine WC.seq fun K2233 hK2233 => ?_
            -- region 17 (draws)
            refine WC.quietS st ty_mixed (by kernel_rfl) fun Kq hKq => ?_
            -- R17.0 130 := more.go:73 fieldAddr
            refine QL.v (fun w st => by exact r_field ty_fld36_1 rfl) rfl rfl rfl ?_
            -- R17.1 131 := more.go:73 load
            refine QL.v (fun w st => by exact r_load1 (v := .pointer (some ⟨bB, 0, none⟩)) ty_one29 rfl (by rw [← f5]; exact st.c1 (by decide))) rfl rfl rfl ?_
            -- R17.2 132 := more.go:73 nilCheck
            refine QL.v (fun w st => by exact r_nilCheck rfl) rfl rfl rfl ?_
            -- R17.3 133 := more.go:73 fieldAddr
            refine QL.v (fun w st => by exact r_field ty_fld50_0 rfl) rfl rfl rfl ?_
            -- R17.4 134 := more.go:73 load
            refine QL.v (fun w st => by exact r_load1 (v := .int .i64 (s.mode : Nat)) ty_one40 rfl (c_s (hck2 _ _).B (by decide) rfl st)) rfl rfl rfl ?_
            -- R17.5 135 := more.go:73 binOp
            refine QL.v (fun w st => by first | exact r_eql rfl rfl (decide_eq_true (by omega)) | exact r_eql rfl rfl (decide_eq_false (by omega)) | exact r_eql rfl rfl rfl) rfl rfl rfl ?_
            -- R17.6 136 := more.go:73 move
            refine QL.v (fun w st => by first | exact r_move (v := .bool _) rfl | exact r_move rfl) rfl rfl rfl ?_
            -- R17.7 137 := more.go:73 fieldAddr
            refine QL.v (fun w st => by exact r_field ty_fld36_0 rfl) rfl rfl rfl ?_
            -- R17.8 138 := more.go:73 fieldAddr
            refine QL.v (fun w st => by exact r_field ty_fld28_3 rfl) rfl rfl rfl ?_
            -- R17.9 139 := more.go:73 load
            refine QL.v (fun w st => by exact r_load1 (v := .int .i64 o.C) ty_one2 rfl (by rw [← f3]; exact st.c1 (by decide))) rfl rfl rfl ?_
            -- R17.10 140 := more.go:73 fieldAddr
            refine QL.v (fun w st => by exact r_field ty_fld36_1 rfl) rfl rfl rfl ?_
            -- R17.11 141 := more.go:73 load
            refine QL.v (fun w st => by exact r_load1 (v := .pointer (some ⟨bB, 0, none⟩)) ty_one29 rfl (by rw [← f5]; exact st.c1 (by decide))) rfl rfl rfl ?_
            -- R17.12 142 := more.go:73 move
            refine QL.v (fun w st => by exact r_move (v := .int .i64 (t : Nat)) (congrArg (Value.int .i64) hT)) rfl rfl rfl ?_
            -- R17.13 143 := more.go:73 move
            refine QL.v (fun w st => by first | exact r_move (v := .int _ _) rfl | exact r_move rfl) rfl rfl rfl ?_
            -- R17.14 144 := more.go:73 nilCheck
            refine QL.v (fun w st => by exact r_nilCheck rfl) rfl rfl rfl ?_
            -- R17.15 145 := more.go:73 fieldAddr
            refine QL.v (fun w st => by exact r_field ty_fld50_5 rfl) rfl rfl rfl ?_
            -- R17.16 146 := more.go:73 indexAddr
            refine QL.v (fun w st => by exact r_indexA (j := t) ty_ar45 rfl rfl rfl ht16) rfl rfl rfl ?_
            -- R17.17 147 := more.go:73 indexAddr
            refine QL.v (fun w st => by exact r_indexA (j := r) ty_ar44 rfl rfl rfl hr20) rfl rfl rfl ?_
            -- R17.18 148 := more.go:73 load
            refine QL.v (fun w st => by exact r_load1 (v := .int .i64 (s.claim t r : Nat)) ty_one3 rfl (c_sC (hck2 _ _).B ht16 hr20 (by omega) st)) rfl rfl rfl ?_
            -- R17.19 149 := more.go:73 fieldAddr
            refine QL.v (fun w st => by exact r_field ty_fld36_1 rfl) rfl rfl rfl ?_
            -- R17.20 150 := more.go:73 load
            refine QL.v (fun w st => by exact r_load1 (v := .pointer (some ⟨bB, 0, none⟩)) ty_one29 rfl (by rw [← f5]; exact st.c1 (by decide))) rfl rfl rfl ?_
            -- R17.21 151 := more.go:73 move
            refine QL.v (fun w st => by exact r_move (v := .int .i64 (t : Nat)) (congrArg (Value.int .i64) hT)) rfl rfl rfl ?_
            -- R17.22 152 := more.go:73 move
            refine QL.v (fun w st => by first | exact r_move (v := .int _ _) rfl | exact r_move rfl) rfl rfl rfl ?_
            -- R17.23 153 := more.go:73 nilCheck
            refine QL.v (fun w st => by exact r_nilCheck rfl) rfl rfl rfl ?_
            -- R17.24 154 := more.go:73 fieldAddr
            refine QL.v (fun w st => by exact r_field ty_fld50_4 rfl) rfl rfl rfl ?_
            -- R17.25 155 := more.go:73 indexAddr
            refine QL.v (fun w st => by exact r_indexA (j := t) ty_ar45 rfl rfl rfl ht16) rfl rfl rfl ?_
            -- R17.26 156 := more.go:73 indexAddr
            refine QL.v (fun w st => by exact r_indexA (j := r) ty_ar44 rfl rfl rfl hr20) rfl rfl rfl ?_
            -- R17.27 157 := more.go:73 load
            refine QL.v (fun w st => by exact r_load1 (v := .int .i64 (s.held t r : Nat)) ty_one3 rfl (c_sH (hck2 _ _).B ht16 hr20 (by omega) st)) rfl rfl rfl ?_
            -- R17.28 158 := more.go:73 binOp
            refine QL.v (fun w st => by exact r_sub (r := (s.claim t r : Int) - s.held t r) rfl rfl (wi64 (by omega) (by omega))) rfl rfl rfl ?_
            -- R17.29 159 := more.go:73 binOp
            refine QL.v (fun w st => by exact r_gtr rfl rfl (decide_eq_false hnc)) rfl rfl rfl ?_
            -- R17.30 160 := more.go:73 pick
            refine QL.v (fun w st => by first | exact r_pickT (v := .bool _) rfl rfl | exact r_pickF (v := .bool _) rfl rfl) rfl rfl rfl ?_
            -- R17.31 7 := more.go:73 assign
            refine QL.v (fun w st => by first | exact r_assign (v := .bool _) rfl | exact r_assign rfl) rfl rfl rfl ?_
            refine QL.wl hKq fun w st => ?_
            refine WL.fin hK2233 (fun _ _ h => h) ?_
            refine WC.seq fun K2234 hK2234 => ?_
            -- region 18
            refine WC.region ?_
            -- R18.0 161 := more.go:74 fieldAddr
            refine WL.v (by exact r_field ty_fld36_3 rfl) rfl rfl rfl ?_
            -- R18.1 162 := more.go:74 fieldAddr
            refine WL.v (by exact r_field ty_fld34_0 rfl) rfl rfl rfl ?_
            -- R18.2 163 := more.go:74 load
            refine WL.v (by exact r_load1 (v := .int .i64 code) ty_one30 rfl (by rw [← f7]; exact st.c1 (by decide))) rfl rfl rfl ?_
            -- R18.3 164 := more.go:74 binOp
            refine WL.v (by first | exact r_neq rfl rfl (decide_eq_true (by omega)) | exact r_neq rfl rfl (decide_eq_false (by omega)) | exact r_neq rfl rfl rfl) rfl rfl rfl ?_
            -- R18.4 165 := more.go:74 move
            refine WL.v (by first | exact r_move (v := .bool _) rfl | exact r_move rfl) rfl rfl rfl ?_
            -- R18.5 166 := more.go:74 fieldAddr
            refine WL.v (by exact r_field ty_fld36_3 rfl) rfl rfl rfl ?_
            -- R18.6 167 := more.go:74 fieldAddr
            refine WL.v (by exact r_field ty_fld34_0 rfl) rfl rfl rfl ?_
            -- R18.7 168 := more.go:74 load
            refine WL.v (by exact r_load1 (v := .int .i64 code) ty_one30 rfl (by rw [← f7]; exact st.c1 (by decide))) rfl rfl rfl ?_
            -- R18.8 169 := more.go:74 binOp
            refine WL.v (by first | exact r_neq rfl rfl (decide_eq_true (by omega)) | exact r_neq rfl rfl (decide_eq_false (by omega)) | exact r_neq rfl rfl rfl) rfl rfl rfl ?_
            -- R18.9 170 := more.go:74 pick
            refine WL.v (by first | exact r_pickT (v := .bool _) rfl rfl | exact r_pickF (v := .bool _) rfl rfl) rfl rfl rfl ?_
            -- R18.10 8 := more.go:74 assign
            refine WL.v (by first | exact r_assign (v := .bool _) rfl | exact r_assign rfl) rfl rfl rfl ?_
            refine WL.fin hK2234 (fun _ _ h => h) ?_
            refine WC.seq fun K2235 hK2235 => ?_
            -- region 19
            refine WC.region ?_
            -- R19.0 171 := more.go:75 move
            refine WL.v (by first | exact r_move (v := .bool _) rfl | exact r_move rfl) rfl rfl rfl ?_
            -- R19.1 172 := more.go:75 move
            refine WL.v (by first | exact r_move (v := .bool _) rfl | exact r_move rfl) rfl rfl rfl ?_
            -- R19.2 173 := more.go:75 move
            refine WL.v (by first | exact r_move (v := .bool _) rfl | exact r_move rfl) rfl rfl rfl ?_
            -- R19.3 174 := more.go:75 fieldAddr
            refine WL.v (by exact r_field ty_fld36_3 rfl) rfl rfl rfl ?_
            -- R19.4 175 := more.go:75 fieldAddr
            refine WL.v (by exact r_field ty_fld34_0 rfl) rfl rfl rfl ?_
            -- R19.5 176 := more.go:75 load
            refine WL.v (by exact r_load1 (v := .int .i64 code) ty_one30 rfl (by rw [← f7]; exact st.c1 (by decide))) rfl rfl rfl ?_
            -- R19.6 177 := more.go:75 binOp
            refine WL.v (by first | exact r_eql rfl rfl (decide_eq_true (by omega)) | exact r_eql rfl rfl (decide_eq_false (by omega)) | exact r_eql rfl rfl rfl) rfl rfl rfl ?_
            -- R19.7 178 := more.go:75 binOp
            refine WL.v (by exact r_bneq ty_bool4 rfl rfl rfl) rfl rfl rfl ?_
            -- R19.8 179 := more.go:75 pick
            refine WL.v (by first | exact r_pickT (v := .bool _) rfl rfl | exact r_pickF (v := .bool _) rfl rfl) rfl rfl rfl ?_
            refine WL.fin hK2235 (fun _ _ h => h) ?_
            refine WC.condF rfl rfl ?_
            refine WC.skipJ hKC (fun _ _ h => h) () (by rw [hcs]; exact st) (by repeat (first | exact sub_nil _ | refine sub_cons rfl rfl ?_))
          · skip
            refine WC.seq fun K2236 hK2236 => ?_
            -- region 6
            refine WC.region ?_
            -- R6.0 60 := more.go:62 fieldAddr
            refine WL.v (by exact r_field ty_fld36_0 rfl) rfl rfl rfl ?_
            -- R6.1 61 := more.go:62 fieldAddr
            refine WL.v (by exact r_field ty_fld28_0 rfl) rfl rfl rfl ?_
            -- R6.2 62 := more.go:62 load
            refine WL.v (by exact r_load1 (v := .int .u8 (o.kind : Nat)) ty_one25 rfl (by rw [← f0]; exact st.c1 (by decide))) rfl rfl rfl ?_
            refine WL.fin hK2236 (fun _ _ h => h) ?_
            refine WC.block ?_
            refine WC.seq fun K2237 hK2237 => ?_
            -- region 7
            refine WC.region ?_
            -- R7.0 64 := more.go:63 binOp
            refine WL.v (by first | exact r_eql rfl rfl (decide_eq_true (by omega)) | exact r_eql rfl rfl (decide_eq_false (by omega)) | exact r_eql rfl rfl rfl) rfl rfl rfl ?_
            -- R7.1 63 := more.go:63 assign
            refine WL.v (by first | exact r_assign (v := .bool _) rfl | exact r_assign rfl) rfl rfl rfl ?_
            refine WL.fin hK2237 (fun _ _ h => h) ?_
            refine WC.condF rfl rfl ?_
            refine WC.seq fun K2238 hK2238 => ?_
            refine WC.seq fun K2239 hK2239 => ?_
            -- region 14
            refine WC.region ?_
            -- R14.0 127 := more.go:72 binOp
            refine WL.v (by first | exact r_eql rfl rfl (decide_eq_true (by omega)) | exact r_eql rfl rfl (decide_eq_false (by omega)) | exact r_eql rfl rfl rfl) rfl rfl rfl ?_
            -- R14.1 126 := more.go:72 assign
            refine WL.v (by first | exact r_assign (v := .bool _) rfl | exact r_assign rfl) rfl rfl rfl ?_
            refine WL.fin hK2239 (fun _ _ h => h) ?_
            refine WC.condF rfl rfl ?_
            refine WC.seq fun K2240 hK2240 => ?_
            -- region 15
            refine WC.region ?_
            -- R15.0 128 := more.go:72 binOp
            refine WL.v (by first | exact r_eql rfl rfl (decide_eq_true (by omega)) | exact r_eql rfl rfl (decide_eq_false (by omega)) | exact r_eql rfl rfl rfl) rfl rfl rfl ?_
            -- R15.1 126 := more.go:72 assign
            refine WL.v (by first | exact r_assign (v := .bool _) rfl | exact r_assign rfl) rfl rfl rfl ?_
            refine WL.fin hK2240 (fun _ _ h => h) ?_
            refine WC.condF rfl rfl ?_
            -- region 16
            refine WC.region ?_
            -- R16.0 129 := more.go:72 binOp
            refine WL.v (by first | exact r_eql rfl rfl (decide_eq_true (by omega)) | exact r_eql rfl rfl (decide_eq_false (by omega)) | exact r_eql rfl rfl rfl) rfl rfl rfl ?_
            -- R16.1 126 := more.go:72 assign
            refine WL.v (by first | exact r_assign (v := .bool _) rfl | exact r_assign rfl) rfl rfl rfl ?_
            refine WL.fin hK2238 (fun _ _ h => h) ?_
            refine WC.condT rfl rfl ?_
            refine WC.seq fun K2241 hK2241 => ?_
            -- region 17 (draws)
            refine WC.quietS st ty_mixed (by kernel_rfl) fun Kq hKq => ?_
            -- R17.0 130 := more.go:73 fieldAddr
            refine QL.v (fun w st => by exact r_field ty_fld36_1 rfl) rfl rfl rfl ?_
            -- R17.1 131 := more.go:73 load
            refine QL.v (fun w st => by exact r_load1 (v := .pointer (some ⟨bB, 0, none⟩)) ty_one29 rfl (by rw [← f5]; exact st.c1 (by decide))) rfl rfl rfl ?_
            -- R17.2 132 := more.go:73 nilCheck
            refine QL.v (fun w st => by exact r_nilCheck rfl) rfl rfl rfl ?_
            -- R17.3 133 := more.go:73 fieldAddr
            refine QL.v (fun w st => by exact r_field ty_fld50_0 rfl) rfl rfl rfl ?_
            -- R17.4 134 := more.go:73 load
            refine QL.v (fun w st => by exact r_load1 (v := .int .i64 (s.mode : Nat)) ty_one40 rfl (c_s (hck2 _ _).B (by decide) rfl st)) rfl rfl rfl ?_
            -- R17.5 135 := more.go:73 binOp
            refine QL.v (fun w st => by first | exact r_eql rfl rfl (decide_eq_true (by omega)) | exact r_eql rfl rfl (decide_eq_false (by omega)) | exact r_eql rfl rfl rfl) rfl rfl rfl ?_
            -- R17.6 136 := more.go:73 move
            refine QL.v (fun w st => by first | exact r_move (v := .bool _) rfl | exact r_move rfl) rfl rfl rfl ?_
            -- R17.7 137 := more.go:73 fieldAddr
            refine QL.v (fun w st => by exact r_field ty_fld36_0 rfl) rfl rfl rfl ?_
            -- R17.8 138 := more.go:73 fieldAddr
            refine QL.v (fun w st => by exact r_field ty_fld28_3 rfl) rfl rfl rfl ?_
            -- R17.9 139 := more.go:73 load
            refine QL.v (fun w st => by exact r_load1 (v := .int .i64 o.C) ty_one2 rfl (by rw [← f3]; exact st.c1 (by decide))) rfl rfl rfl ?_
            -- R17.10 140 := more.go:73 fieldAddr
            refine QL.v (fun w st => by exact r_field ty_fld36_1 rfl) rfl rfl rfl ?_
            -- R17.11 141 := more.go:73 load
            refine QL.v (fun w st => by exact r_load1 (v := .pointer (some ⟨bB, 0, none⟩)) ty_one29 rfl (by rw [← f5]; exact st.c1 (by decide))) rfl rfl rfl ?_
            -- R17.12 142 := more.go:73 move
            refine QL.v (fun w st => by exact r_move (v := .int .i64 (t : Nat)) (congrArg (Value.int .i64) hT)) rfl rfl rfl ?_
            -- R17.13 143 := more.go:73 move
            refine QL.v (fun w st => by first | exact r_move (v := .int _ _) rfl | exact r_move rfl) rfl rfl rfl ?_
            -- R17.14 144 := more.go:73 nilCheck
            refine QL.v (fun w st => by exact r_nilCheck rfl) rfl rfl rfl ?_
            -- R17.15 145 := more.go:73 fieldAddr
            refine QL.v (fun w st => by exact r_field ty_fld50_5 rfl) rfl rfl rfl ?_
            -- R17.16 146 := more.go:73 indexAddr
            refine QL.v (fun w st => by exact r_indexA (j := t) ty_ar45 rfl rfl rfl ht16) rfl rfl rfl ?_
            -- R17.17 147 := more.go:73 indexAddr
            refine QL.v (fun w st => by exact r_indexA (j := r) ty_ar44 rfl rfl rfl hr20) rfl rfl rfl ?_
            -- R17.18 148 := more.go:73 load
            refine QL.v (fun w st => by exact r_load1 (v := .int .i64 (s.claim t r : Nat)) ty_one3 rfl (c_sC (hck2 _ _).B ht16 hr20 (by omega) st)) rfl rfl rfl ?_
            -- R17.19 149 := more.go:73 fieldAddr
            refine QL.v (fun w st => by exact r_field ty_fld36_1 rfl) rfl rfl rfl ?_
            -- R17.20 150 := more.go:73 load
            refine QL.v (fun w st => by exact r_load1 (v := .pointer (some ⟨bB, 0, none⟩)) ty_one29 rfl (by rw [← f5]; exact st.c1 (by decide))) rfl rfl rfl ?_
            -- R17.21 151 := more.go:73 move
            refine QL.v (fun w st => by exact r_move (v := .int .i64 (t : Nat)) (congrArg (Value.int .i64) hT)) rfl rfl rfl ?_
            -- R17.22 152 := more.go:73 move
            refine QL.v (fun w st => by first | exact r_move (v := .int _ _) rfl | exact r_move rfl) rfl rfl rfl ?_
            -- R17.23 153 := more.go:73 nilCheck
            refine QL.v (fun w st => by exact r_nilCheck rfl) rfl rfl rfl ?_
            -- R17.24 154 := more.go:73 fieldAddr
            refine QL.v (fun w st => by exact r_field ty_fld50_4 rfl) rfl rfl rfl ?_
            -- R17.25 155 := more.go:73 indexAddr
            refine QL.v (fun w st => by exact r_indexA (j := t) ty_ar45 rfl rfl rfl ht16) rfl rfl rfl ?_
            -- R17.26 156 := more.go:73 indexAddr
            refine QL.v (fun w st => by exact r_indexA (j := r) ty_ar44 rfl rfl rfl hr20) rfl rfl rfl ?_
            -- R17.27 157 := more.go:73 load
            refine QL.v (fun w st => by exact r_load1 (v := .int .i64 (s.held t r : Nat)) ty_one3 rfl (c_sH (hck2 _ _).B ht16 hr20 (by omega) st)) rfl rfl rfl ?_
            -- R17.28 158 := more.go:73 binOp
            refine QL.v (fun w st => by exact r_sub (r := (s.claim t r : Int) - s.held t r) rfl rfl (wi64 (by omega) (by omega))) rfl rfl rfl ?_
            -- R17.29 159 := more.go:73 binOp
            refine QL.v (fun w st => by exact r_gtr rfl rfl (decide_eq_false hnc)) rfl rfl rfl ?_
            -- R17.30 160 := more.go:73 pick
            refine QL.v (fun w st => by first | exact r_pickT (v := .bool _) rfl rfl | exact r_pickF (v := .bool _) rfl rfl) rfl rfl rfl ?_
            -- R17.31 7 := more.go:73 assign
            refine QL.v (fun w st => by first | exact r_assign (v := .bool _) rfl | exact r_assign rfl) rfl rfl rfl ?_
            refine QL.wl hKq fun w st => ?_
            refine WL.fin hK2241 (fun _ _ h => h) ?_
            refine WC.seq fun K2242 hK2242 => ?_
            -- region 18
            refine WC.region ?_
            -- R18.0 161 := more.go:74 fieldAddr
            refine WL.v (by exact r_field ty_fld36_3 rfl) rfl rfl rfl ?_
            -- R18.1 162 := more.go:74 fieldAddr
            refine WL.v (by exact r_field ty_fld34_0 rfl) rfl rfl rfl ?_
            -- R18.2 163 := more.go:74 load
            refine WL.v (by exact r_load1 (v := .int .i64 code) ty_one30 rfl (by rw [← f7]; exact st.c1 (by decide))) rfl rfl rfl ?_
            -- R18.3 164 := more.go:74 binOp
            refine WL.v (by first | exact r_neq rfl rfl (decide_eq_true (by omega)) | exact r_neq rfl rfl (decide_eq_false (by omega)) | exact r_neq rfl rfl rfl) rfl rfl rfl ?_
            -- R18.4 165 := more.go:74 move
            refine WL.v (by first | exact r_move (v := .bool _) rfl | exact r_move rfl) rfl rfl rfl ?_
            -- R18.5 166 := more.go:74 fieldAddr
            refine WL.v (by exact r_field ty_fld36_3 rfl) rfl rfl rfl ?_
            -- R18.6 167 := more.go:74 fieldAddr
            refine WL.v (by exact r_field ty_fld34_0 rfl) rfl rfl rfl ?_
            -- R18.7 168 := more.go:74 load
            refine WL.v (by exact r_load1 (v := .int .i64 code) ty_one30 rfl (by rw [← f7]; exact st.c1 (by decide))) rfl rfl rfl ?_
            -- R18.8 169 := more.go:74 binOp
            refine WL.v (by first | exact r_neq rfl rfl (decide_eq_true (by omega)) | exact r_neq rfl rfl (decide_eq_false (by omega)) | exact r_neq rfl rfl rfl) rfl rfl rfl ?_
            -- R18.9 170 := more.go:74 pick
            refine WL.v (by first | exact r_pickT (v := .bool _) rfl rfl | exact r_pickF (v := .bool _) rfl rfl) rfl rfl rfl ?_
            -- R18.10 8 := more.go:74 assign
            refine WL.v (by first | exact r_assign (v := .bool _) rfl | exact r_assign rfl) rfl rfl rfl ?_
            refine WL.fin hK2242 (fun _ _ h => h) ?_
            refine WC.seq fun K2243 hK2243 => ?_
            -- region 19
            refine WC.region ?_
            -- R19.0 171 := more.go:75 move
            refine WL.v (by first | exact r_move (v := .bool _) rfl | exact r_move rfl) rfl rfl rfl ?_
            -- R19.1 172 := more.go:75 move
            refine WL.v (by first | exact r_move (v := .bool _) rfl | exact r_move rfl) rfl rfl rfl ?_
            -- R19.2 173 := more.go:75 move
            refine WL.v (by first | exact r_move (v := .bool _) rfl | exact r_move rfl) rfl rfl rfl ?_
            -- R19.3 174 := more.go:75 fieldAddr
            refine WL.v (by exact r_field ty_fld36_3 rfl) rfl rfl rfl ?_
            -- R19.4 175 := more.go:75 fieldAddr
            refine WL.v (by exact r_field ty_fld34_0 rfl) rfl rfl rfl ?_
            -- R19.5 176 := more.go:75 load
            refine WL.v (by exact r_load1 (v := .int .i64 code) ty_one30 rfl (by rw [← f7]; exact st.c1 (by decide))) rfl rfl rfl ?_
            -- R19.6 177 := more.go:75 binOp
            refine WL.v (by first | exact r_eql rfl rfl (decide_eq_true (by omega)) | exact r_eql rfl rfl (decide_eq_false (by omega)) | exact r_eql rfl rfl rfl) rfl rfl rfl ?_
            -- R19.7 178 := more.go:75 binOp
            refine WL.v (by exact r_bneq ty_bool4 rfl rfl rfl) rfl rfl rfl ?_
            -- R19.8 179 := more.go:75 pick
            refine WL.v (by first | exact r_pickT (v := .bool _) rfl rfl | exact r_pickF (v := .bool _) rfl rfl) rfl rfl rfl ?_
            refine WL.fin hK2243 (fun _ _ h => h) ?_
            refine WC.condF rfl rfl ?_
            refine WC.skipJ hKC (fun _ _ h => h) () (by rw [hcs]; exact st) (by repeat (first | exact sub_nil _ | refine sub_cons rfl rfl ?_))
        · skip
          by_cases h14 : code = 14
          · skip
            rcases (by omega : o.kind = 3 ∨ o.kind = 4 ∨ o.kind = 5) with hk3 | hk4 | hk5
            · skip
              refine WC.seq fun K2244 hK2244 => ?_
              -- region 6
              refine WC.region ?_
              -- R6.0 60 := more.go:62 fieldAddr
              refine WL.v (by exact r_field ty_fld36_0 rfl) rfl rfl rfl ?_
              -- R6.1 61 := more.go:62 fieldAddr
              refine WL.v (by exact r_field ty_fld28_0 rfl) rfl rfl rfl ?_
              -- R6.2 62 := more.go:62 load
              refine WL.v (by exact r_load1 (v := .int .u8 (o.kind : Nat)) ty_one25 rfl (by rw [← f0]; exact st.c1 (by decide))) rfl rfl rfl ?_
              refine WL.fin hK2244 (fun _ _ h => h) ?_
              refine WC.block ?_
              refine WC.seq fun K2245 hK2245 => ?_
              -- region 7
              refine WC.region ?_
              -- R7.0 64 := more.go:63 binOp
              refine WL.v (by first | exact r_eql rfl rfl (decide_eq_true (by omega)) | exact r_eql rfl rfl (decide_eq_false (by omega)) | exact r_eql rfl rfl rfl) rfl rfl rfl ?_
              -- R7.1 63 := more.go:63 assign
              refine WL.v (by first | exact r_assign (v := .bool _) rfl | exact r_assign rfl) rfl rfl rfl ?_
              refine WL.fin hK2245 (fun _ _ h => h) ?_
              refine WC.condF rfl rfl ?_
              refine WC.seq fun K2246 hK2246 => ?_
              refine WC.seq fun K2247 hK2247 => ?_
              -- region 14
              refine WC.region ?_
              -- R14.0 127 := more.go:72 binOp
              refine WL.v (by first | exact r_eql rfl rfl (decide_eq_true (by omega)) | exact r_eql rfl rfl (decide_eq_false (by omega)) | exact r_eql rfl rfl rfl) rfl rfl rfl ?_
              -- R14.1 126 := more.go:72 assign
              refine WL.v (by first | exact r_assign (v := .bool _) rfl | exact r_assign rfl) rfl rfl rfl ?_
              refine WL.fin hK2247 (fun _ _ h => h) ?_
              refine WC.condT rfl rfl ?_
              refine WC.skipF hK2246 (fun _ _ h => h) ?_
              refine WC.condT rfl rfl ?_
              refine WC.seq fun K2248 hK2248 => ?_
              -- region 17 (draws)
              refine WC.quietS st ty_mixed (by kernel_rfl) fun Kq hKq => ?_
              -- R17.0 130 := more.go:73 fieldAddr
              refine QL.v (fun w st => by exact r_field ty_fld36_1 rfl) rfl rfl rfl ?_
              -- R17.1 131 := more.go:73 load
              refine QL.v (fun w st => by exact r_load1 (v := .pointer (some ⟨bB, 0, none⟩)) ty_one29 rfl (by rw [← f5]; exact st.c1 (by decide))) rfl rfl rfl ?_
              -- R17.2 132 := more.go:73 nilCheck
              refine QL.v (fun w st => by exact r_nilCheck rfl) rfl rfl rfl ?_
              -- R17.3 133 := more.go:73 fieldAddr
              refine QL.v (fun w st => by exact r_field ty_fld50_0 rfl) rfl rfl rfl ?_
              -- R17.4 134 := more.go:73 load
              refine QL.v (fun w st => by exact r_load1 (v := .int .i64 (s.mode : Nat)) ty_one40 rfl (c_s (hck2 _ _).B (by decide) rfl st)) rfl rfl rfl ?_
              -- R17.5 135 := more.go:73 binOp
              refine QL.v (fun w st => by first | exact r_eql rfl rfl (decide_eq_true (by omega)) | exact r_eql rfl rfl (decide_eq_false (by omega)) | exact r_eql rfl rfl rfl) rfl rfl rfl ?_
              -- R17.6 136 := more.go:73 move
              refine QL.v (fun w st => by first | exact r_move (v := .bool _) rfl | exact r_move rfl) rfl rfl rfl ?_
              -- R17.7 137 := more.go:73 fieldAddr
              refine QL.v (fun w st => by exact r_field ty_fld36_0 rfl) rfl rfl rfl ?_
              -- R17.8 138 := more.go:73 fieldAddr
              refine QL.v (fun w st => by exact r_field ty_fld28_3 rfl) rfl rfl rfl ?_
              -- R17.9 139 := more.go:73 load
              refine QL.v (fun w st => by exact r_load1 (v := .int .i64 o.C) ty_one2 rfl (by rw [← f3]; exact st.c1 (by decide))) rfl rfl rfl ?_
              -- R17.10 140 := more.go:73 fieldAddr
              refine QL.v (fun w st => by exact r_field ty_fld36_1 rfl) rfl rfl rfl ?_
              -- R17.11 141 := more.go:73 load
              refine QL.v (fun w st => by exact r_load1 (v := .pointer (some ⟨bB, 0, none⟩)) ty_one29 rfl (by rw [← f5]; exact st.c1 (by decide))) rfl rfl rfl ?_
              -- R17.12 142 := more.go:73 move
              refine QL.v (fun w st => by exact r_move (v := .int .i64 (t : Nat)) (congrArg (Value.int .i64) hT)) rfl rfl rfl ?_
              -- R17.13 143 := more.go:73 move
              refine QL.v (fun w st => by first | exact r_move (v := .int _ _) rfl | exact r_move rfl) rfl rfl rfl ?_
              -- R17.14 144 := more.go:73 nilCheck
              refine QL.v (fun w st => by exact r_nilCheck rfl) rfl rfl rfl ?_
              -- R17.15 145 := more.go:73 fieldAddr
              refine QL.v (fun w st => by exact r_field ty_fld50_5 rfl) rfl rfl rfl ?_
              -- R17.16 146 := more.go:73 indexAddr
              refine QL.v (fun w st => by exact r_indexA (j := t) ty_ar45 rfl rfl rfl ht16) rfl rfl rfl ?_
              -- R17.17 147 := more.go:73 indexAddr
              refine QL.v (fun w st => by exact r_indexA (j := r) ty_ar44 rfl rfl rfl hr20) rfl rfl rfl ?_
              -- R17.18 148 := more.go:73 load
              refine QL.v (fun w st => by exact r_load1 (v := .int .i64 (s.claim t r : Nat)) ty_one3 rfl (c_sC (hck2 _ _).B ht16 hr20 (by omega) st)) rfl rfl rfl ?_
              -- R17.19 149 := more.go:73 fieldAddr
              refine QL.v (fun w st => by exact r_field ty_fld36_1 rfl) rfl rfl rfl ?_
              -- R17.20 150 := more.go:73 load
              refine QL.v (fun w st => by exact r_load1 (v := .pointer (some ⟨bB, 0, none⟩)) ty_one29 rfl (by rw [← f5]; exact st.c1 (by decide))) rfl rfl rfl ?_
              -- R17.21 151 := more.go:73 move
              refine QL.v (fun w st => by exact r_move (v := .int .i64 (t : Nat)) (congrArg (Value.int .i64) hT)) rfl rfl rfl ?_
              -- R17.22 152 := more.go:73 move
              refine QL.v (fun w st => by first | exact r_move (v := .int _ _) rfl | exact r_move rfl) rfl rfl rfl ?_
              -- R17.23 153 := more.go:73 nilCheck
              refine QL.v (fun w st => by exact r_nilCheck rfl) rfl rfl rfl ?_
              -- R17.24 154 := more.go:73 fieldAddr
              refine QL.v (fun w st => by exact r_field ty_fld50_4 rfl) rfl rfl rfl ?_
              -- R17.25 155 := more.go:73 indexAddr
              refine QL.v (fun w st => by exact r_indexA (j := t) ty_ar45 rfl rfl rfl ht16) rfl rfl rfl ?_
              -- R17.26 156 := more.go:73 indexAddr
              refine QL.v (fun w st => by exact r_indexA (j := r) ty_ar44 rfl rfl rfl hr20) rfl rfl rfl ?_
              -- R17.27 157 := more.go:73 load
              refine QL.v (fun w st => by exact r_load1 (v := .int .i64 (s.held t r : Nat)) ty_one3 rfl (c_sH (hck2 _ _).B ht16 hr20 (by omega) st)) rfl rfl rfl ?_
              -- R17.28 158 := more.go:73 binOp
              refine QL.v (fun w st => by exact r_sub (r := (s.claim t r : Int) - s.held t r) rfl rfl (wi64 (by omega) (by omega))) rfl rfl rfl ?_
              -- R17.29 159 := more.go:73 binOp
              refine QL.v (fun w st => by exact r_gtr rfl rfl (decide_eq_true hnc)) rfl rfl rfl ?_
              -- R17.30 160 := more.go:73 pick
              refine QL.v (fun w st => by first | exact r_pickT (v := .bool _) rfl rfl | exact r_pickF (v := .bool _) rfl rfl) rfl rfl rfl ?_
              -- R17.31 7 := more.go:73 assign
              refine QL.v (fun w st => by first | exact r_assign (v := .bool _) rfl | exact r_assign rfl) rfl rfl rfl ?_
              refine QL.wl hKq fun w st => ?_
              refine WL.fin hK2248 (fun _ _ h => h) ?_
              refine WC.seq fun K2249 hK2249 => ?_
              -- region 18
              refine WC.region ?_
              -- R18.0 161 := more.go:74 fieldAddr
              refine WL.v (by exact r_field ty_fld36_3 rfl) rfl rfl rfl ?_
              -- R18.1 162 := more.go:74 fieldAddr
              refine WL.v (by exact r_field ty_fld34_0 rfl) rfl rfl rfl ?_
              -- R18.2 163 := more.go:74 load
              refine WL.v (by exact r_load1 (v := .int .i64 code) ty_one30 rfl (by rw [← f7]; exact st.c1 (by decide))) rfl rfl rfl ?_
              -- R18.3 164 := more.go:74 binOp
              refine WL.v (by first | exact r_neq rfl rfl (decide_eq_true (by omega)) | exact r_neq rfl rfl (decide_eq_false (by omega)) | exact r_neq rfl rfl rfl) rfl rfl rfl ?_
              -- R18.4 165 := more.go:74 move
              refine WL.v (by first | exact r_move (v := .bool _) rfl | exact r_move rfl) rfl rfl rfl ?_
              -- R18.5 166 := more.go:74 fieldAddr
              refine WL.no rfl rfl ?_
              -- R18.6 167 := more.go:74 fieldAddr
              refine WL.no rfl rfl ?_
              -- R18.7 168 := more.go:74 load
              refine WL.no rfl rfl ?_
              -- R18.8 169 := more.go:74 binOp
              refine WL.no rfl rfl ?_
              -- R18.9 170 := more.go:74 pick
              refine WL.v (by first | exact r_pickT (v := .bool _) rfl rfl | exact r_pickF (v := .bool _) rfl rfl) rfl rfl rfl ?_
              -- R18.10 8 := more.go:74 assign
              refine WL.v (by first | exact r_assign (v := .bool _) rfl | exact r_assign rfl) rfl rfl rfl ?_
              refine WL.fin hK2249 (fun _ _ h => h) ?_
              refine WC.seq fun K2250 hK2250 => ?_
              -- region 19
              refine WC.region ?_
              -- R19.0 171 := more.go:75 move
              refine WL.v (by first | exact r_move (v := .bool _) rfl | exact r_move rfl) rfl rfl rfl ?_
              -- R19.1 172 := more.go:75 move
              refine WL.v (by first | exact r_move (v := .bool _) rfl | exact r_move rfl) rfl rfl rfl ?_
              -- R19.2 173 := more.go:75 move
              refine WL.no rfl rfl ?_
              -- R19.3 174 := more.go:75 fieldAddr
              refine WL.no rfl rfl ?_
              -- R19.4 175 := more.go:75 fieldAddr
              refine WL.no rfl rfl ?_
              -- R19.5 176 := more.go:75 load
              refine WL.no rfl rfl ?_
              -- R19.6 177 := more.go:75 binOp
              refine WL.no rfl rfl ?_
              -- R19.7 178 := more.go:75 binOp
              refine WL.no rfl rfl ?_
              -- R19.8 179 := more.go:75 pick
              refine WL.v (by first | exact r_pickT (v := .bool _) rfl rfl | exact r_pickF (v := .bool _) rfl rfl) rfl rfl rfl ?_
              refine WL.fin hK2250 (fun _ _ h => h) ?_
              refine WC.condF rfl rfl ?_
              refine WC.skipJ hKC (fun _ _ h => h) () (by rw [hcs]; exact st) (by repeat (first | exact sub_nil _ | refine sub_cons rfl rfl ?_))
            · skip
              refine WC.seq fun K2251 hK2251 => ?_
              -- region 6
              refine WC.region ?_
              -- R6.0 60 := more.go:62 fieldAddr
              refine WL.v (by exact r_field ty_fld36_0 rfl) rfl rfl rfl ?_
              -- R6.1 61 := more.go:62 fieldAddr
              refine WL.v (by exact r_field ty_fld28_0 rfl) rfl rfl rfl ?_
              -- R6.2 62 := more.go:62 load
              refine WL.v (by exact r_load1 (v := .int .u8 (o.kind : Nat)) ty_one25 rfl (by rw [← f0]; exact st.c1 (by decide))) rfl rfl rfl ?_
              refine WL.fin hK2251 (fun _ _ h => h) ?_
              refine WC.block ?_
              refine WC.seq fun K2252 hK2252 => ?_
              -- region 7
              refine WC.region ?_
              -- R7.0 64 := more.go:63 binOp
              refine WL.v (by first | exact r_eql rfl rfl (decide_eq_true (by omega)) | exact r_eql rfl rfl (decide_eq_false (by omega)) | exact r_eql rfl rfl rfl) rfl rfl rfl ?_
              -- R7.1 63 := more.go:63 assign
              refine WL.v (by first | exact r_assign (v := .bool _) rfl | exact r_assign rfl) rfl rfl rfl ?_
              refine WL.fin hK2252 (fun _ _ h => h) ?_
              refine WC.condF rfl rfl ?_
              refine WC.seq fun K2253 hK2253 => ?_
              refine WC.seq fun K2254 hK2254 => ?_
              -- region 14
              refine WC.region ?_
              -- R14.0 127 := more.go:72 binOp
              refine WL.v (by first | exact r_eql rfl rfl (decide_eq_true (by omega)) | exact r_eql rfl rfl (decide_eq_false (by omega)) | exact r_eql rfl rfl rfl) rfl rfl rfl ?_
              -- R14.1 126 := more.go:72 assign
              refine WL.v (by first | exact r_assign (v := .bool _) rfl | exact r_assign rfl) rfl rfl rfl ?_
              refine WL.fin hK2254 (fun _ _ h => h) ?_
              refine WC.condF rfl rfl ?_
              refine WC.seq fun K2255 hK2255 => ?_
              -- region 15
              refine WC.region ?_
              -- R15.0 128 := more.go:72 binOp
              refine WL.v (by first | exact r_eql rfl rfl (decide_eq_true (by omega)) | exact r_eql rfl rfl (decide_eq_false (by omega)) | exact r_eql rfl rfl rfl) rfl rfl rfl ?_
              -- R15.1 126 := more.go:72 assign
              refine WL.v (by first | exact r_assign (v := .bool _) rfl | exact r_assign rfl) rfl rfl rfl ?_
              refine WL.fin hK2255 (fun _ _ h => h) ?_
              refine WC.condT rfl rfl ?_
              refine WC.skipF hK2253 (fun _ _ h => h) ?_
              refine WC.condT rfl rfl ?_
              refine WC.seq fun K2256 hK2256 => ?_
              -- region 17 (draws)
              refine WC.quietS st ty_mixed (by kernel_rfl) fun Kq hKq => ?_
              -- R17.0 130 := more.go:73 fieldAddr
              refine QL.v (fun w st => by exact r_field ty_fld36_1 rfl) rfl rfl rfl ?_
              -- R17.1 131 := more.go:73 load
              refine QL.v (fun w st => by exact r_load1 (v := .pointer (some ⟨bB, 0, none⟩)) ty_one29 rfl (by rw [← f5]; exact st.c1 (by decide))) rfl rfl rfl ?_
              -- R17.2 132 := more.go:73 nilCheck
              refine QL.v (fun w st => by exact r_nilCheck rfl) rfl rfl rfl ?_
              -- R17.3 133 := more.go:73 fieldAddr
              refine QL.v (fun w st => by exact r_field ty_fld50_0 rfl) rfl rfl rfl ?_
              -- R17.4 134 := more.go:73 load
              refine QL.v (fun w st => by exact r_load1 (v := .int .i64 (s.mode : Nat)) ty_one40 rfl (c_s (hck2 _ _).B (by decide) rfl st)) rfl rfl rfl ?_
              -- R17.5 135 := more.go:73 binOp
              refine QL.v (fun w st => by first | exact r_eql rfl rfl (decide_eq_true (by omega)) | exact r_eql rfl rfl (decide_eq_false (by omega)) | exact r_eql rfl rfl rfl) rfl rfl rfl ?_
              -- R17.6 136 := more.go:73 move
              refine QL.v (fun w st => by first | exact r_move (v := .bool _) rfl | exact r_move rfl) rfl rfl rfl ?_
              -- R17.7 137 := more.go:73 fieldAddr
              refine QL.v (fun w st => by exact r_field ty_fld36_0 rfl) rfl rfl rfl ?_
              -- R17.8 138 := more.go:73 fieldAddr
              refine QL.v (fun w st => by exact r_field ty_fld28_3 rfl) rfl rfl rfl ?_
              -- R17.9 139 := more.go:73 load
              refine QL.v (fun w st => by exact r_load1 (v := .int .i64 o.C) ty_one2 rfl (by rw [← f3]; exact st.c1 (by decide))) rfl rfl rfl ?_
              -- R17.10 140 := more.go:73 fieldAddr
              refine QL.v (fun w st => by exact r_field ty_fld36_1 rfl) rfl rfl rfl ?_
              -- R17.11 141 := more.go:73 load
              refine QL.v (fun w st => by exact r_load1 (v := .pointer (some ⟨bB, 0, none⟩)) ty_one29 rfl (by rw [← f5]; exact st.c1 (by decide))) rfl rfl rfl ?_
              -- R17.12 142 := more.go:73 move
              refine QL.v (fun w st => by exact r_move (v := .int .i64 (t : Nat)) (congrArg (Value.int .i64) hT)) rfl rfl rfl ?_
              -- R17.13 143 := more.go:73 move
              refine QL.v (fun w st => by first | exact r_move (v := .int _ _) rfl | exact r_move rfl) rfl rfl rfl ?_
              -- R17.14 144 := more.go:73 nilCheck
              refine QL.v (fun w st => by exact r_nilCheck rfl) rfl rfl rfl ?_
              -- R17.15 145 := more.go:73 fieldAddr
              refine QL.v (fun w st => by exact r_field ty_fld50_5 rfl) rfl rfl rfl ?_
              -- R17.16 146 := more.go:73 indexAddr
              refine QL.v (fun w st => by exact r_indexA (j := t) ty_ar45 rfl rfl rfl ht16) rfl rfl rfl ?_
              -- R17.17 147 := more.go:73 indexAddr
              refine QL.v (fun w st => by exact r_indexA (j := r) ty_ar44 rfl rfl rfl hr20) rfl rfl rfl ?_
              -- R17.18 148 := more.go:73 load
              refine QL.v (fun w st => by exact r_load1 (v := .int .i64 (s.claim t r : Nat)) ty_one3 rfl (c_sC (hck2 _ _).B ht16 hr20 (by omega) st)) rfl rfl rfl ?_
              -- R17.19 149 := more.go:73 fieldAddr
              refine QL.v (fun w st => by exact r_field ty_fld36_1 rfl) rfl rfl rfl ?_
              -- R17.20 150 := more.go:73 load
              refine QL.v (fun w st => by exact r_load1 (v := .pointer (some ⟨bB, 0, none⟩)) ty_one29 rfl (by rw [← f5]; exact st.c1 (by decide))) rfl rfl rfl ?_
              -- R17.21 151 := more.go:73 move
              refine QL.v (fun w st => by exact r_move (v := .int .i64 (t : Nat)) (congrArg (Value.int .i64) hT)) rfl rfl rfl ?_
              -- R17.22 152 := more.go:73 move
              refine QL.v (fun w st => by first | exact r_move (v := .int _ _) rfl | exact r_move rfl) rfl rfl rfl ?_
              -- R17.23 153 := more.go:73 nilCheck
              refine QL.v (fun w st => by exact r_nilCheck rfl) rfl rfl rfl ?_
              -- R17.24 154 := more.go:73 fieldAddr
              refine QL.v (fun w st => by exact r_field ty_fld50_4 rfl) rfl rfl rfl ?_
              -- R17.25 155 := more.go:73 indexAddr
              refine QL.v (fun w st => by exact r_indexA (j := t) ty_ar45 rfl rfl rfl ht16) rfl rfl rfl ?_
              -- R17.26 156 := more.go:73 indexAddr
              refine QL.v (fun w st => by exact r_indexA (j := r) ty_ar44 rfl rfl rfl hr20) rfl rfl rfl ?_
              -- R17.27 157 := more.go:73 load
              refine QL.v (fun w st => by exact r_load1 (v := .int .i64 (s.held t r : Nat)) ty_one3 rfl (c_sH (hck2 _ _).B ht16 hr20 (by omega) st)) rfl rfl rfl ?_
              -- R17.28 158 := more.go:73 binOp
              refine QL.v (fun w st => by exact r_sub (r := (s.claim t r : Int) - s.held t r) rfl rfl (wi64 (by omega) (by omega))) rfl rfl rfl ?_
              -- R17.29 159 := more.go:73 binOp
              refine QL.v (fun w st => by exact r_gtr rfl rfl (decide_eq_true hnc)) rfl rfl rfl ?_
              -- R17.30 160 := more.go:73 pick
              refine QL.v (fun w st => by first | exact r_pickT (v := .bool _) rfl rfl | exact r_pickF (v := .bool _) rfl rfl) rfl rfl rfl ?_
              -- R17.31 7 := more.go:73 assign
              refine QL.v (fun w st => by first | exact r_assign (v := .bool _) rfl | exact r_assign rfl) rfl rfl rfl ?_
              refine QL.wl hKq fun w st => ?_
              refine WL.fin hK2256 (fun _ _ h => h) ?_
              refine WC.seq fun K2257 hK2257 => ?_
              -- region 18
              refine WC.region ?_
              -- R18.0 161 := more.go:74 fieldAddr
              refine WL.v (by exact r_field ty_fld36_3 rfl) rfl rfl rfl ?_
              -- R18.1 162 := more.go:74 fieldAddr
              refine WL.v (by exact r_field ty_fld34_0 rfl) rfl rfl rfl ?_
              -- R18.2 163 := more.go:74 load
              refine WL.v (by exact r_load1 (v := .int .i64 code) ty_one30 rfl (by rw [← f7]; exact st.c1 (by decide))) rfl rfl rfl ?_
              -- R18.3 164 := more.go:74 binOp
              refine WL.v (by first | exact r_neq rfl rfl (decide_eq_true (by omega)) | exact r_neq rfl rfl (decide_eq_false (by omega)) | exact r_neq rfl rfl rfl) rfl rfl rfl ?_
              -- R18.4 165 := more.go:74 move
              refine WL.v (by first | exact r_move (v := .bool _) rfl | exact r_move rfl) rfl rfl rfl ?_
              -- R18.5 166 := more.go:74 fieldAddr
              refine WL.no rfl rfl ?_
              -- R18.6 167 := more.go:74 fieldAddr
              refine WL.no rfl rfl ?_
              -- R18.7 168 := more.go:74 load
              refine WL.no rfl rfl ?_
              -- R18.8 169 := more.go:74 binOp
              refine WL.no rfl rfl ?_
              -- R18.9 170 := more.go:74 pick
              refine WL.v (by first | exact r_pickT (v := .bool _) rfl rfl | exact r_pickF (v := .bool _) rfl rfl) rfl rfl rfl ?_
              -- R18.10 8 := more.go:74 assign
              refine WL.v (by first | exact r_assign (v := .bool _) rfl | exact r_assign rfl) rfl rfl rfl ?_
              refine WL.fin hK2257 (fun _ _ h => h) ?_
              refine WC.seq fun K2258 hK2258 => ?_
              -- region 19
              refine WC.region ?_
              -- R19.0 171 := more.go:75 move
              refine WL.v (by first | exact r_move (v := .bool _) rfl | exact r_move rfl) rfl rfl rfl ?_
              -- R19.1 172 := more.go:75 move
              refine WL.v (by first | exact r_move (v := .bool _) rfl | exact r_move rfl) rfl rfl rfl ?_
              -- R19.2 173 := more.go:75 move
              refine WL.no rfl rfl ?_
              -- R19.3 174 := more.go:75 fieldAddr
              refine WL.no rfl rfl ?_
              -- R19.4 175 := more.go:75 fieldAddr
              refine WL.no rfl rfl ?_
              -- R19.5 176 := more.go:75 load
              refine WL.no rfl rfl ?_
              -- R19.6 177 := more.go:75 binOp
              refine WL.no rfl rfl ?_
              -- R19.7 178 := more.go:75 binOp
              refine WL.no rfl rfl ?_
              -- R19.8 179 := more.go:75 pick
              refine WL.v (by first | exact r_pickT (v := .bool _) rfl rfl | exact r_pickF (v := .bool _) rfl rfl) rfl rfl rfl ?_
              refine WL.fin hK2258 (fun _ _ h => h) ?_
              refine WC.condF rfl rfl ?_
              refine WC.skipJ hKC (fun _ _ h => h) () (by rw [hcs]; exact st) (by repeat (first | exact sub_nil _ | refine sub_cons rfl rfl ?_))
            · skip
              refine WC.seq fun K2259 hK2259 => ?_
              -- region 6
              refine WC.region ?_
              -- R6.0 60 := more.go:62 fieldAddr
              refine WL.v (by exact r_field ty_fld36_0 rfl) rfl rfl rfl ?_
              -- R6.1 61 := more.go:62 fieldAddr
              refine WL.v (by exact r_field ty_fld28_0 rfl) rfl rfl rfl ?_
              -- R6.2 62 := more.go:62 load
              refine WL.v (by exact r_load1 (v := .int .u8 (o.kind : Nat)) ty_one25 rfl (by rw [← f0]; exact st.c1 (by decide))) rfl rfl rfl ?_
              refine WL.fin hK2259 (fun _ _ h => h) ?_
              refine WC.block ?_
              refine WC.seq fun K2260 hK2260 => ?_
              -- region 7
              refine WC.region ?_
              -- R7.0 64 := more.go:63 binOp
              refine WL.v (by first | exact r_eql rfl rfl (decide_eq_true (by omega)) | exact r_eql rfl rfl (decide_eq_false (by omega)) | exact r_eql rfl rfl rfl) rfl rfl rfl ?_
              -- R7.1 63 := more.go:63 assign
              refine WL.v (by first | exact r_assign (v := .bool _) rfl | exact r_assign rfl) rfl rfl rfl ?_
              refine WL.fin hK2260 (fun _ _ h => h) ?_
              refine WC.condF rfl rfl ?_
              refine WC.seq fun K2261 hK2261 => ?_
              refine WC.seq fun K2262 hK2262 => ?_
              -- region 14
              refine WC.region ?_
              -- R14.0 127 := more.go:72 binOp
              refine WL.v (by first | exact r_eql rfl rfl (decide_eq_true (by omega)) | exact r_eql rfl rfl (decide_eq_false (by omega)) | exact r_eql rfl rfl rfl) rfl rfl rfl ?_
              -- R14.1 126 := more.go:72 assign
              refine WL.v (by first | exact r_assign (v := .bool _) rfl | exact r_assign rfl) rfl rfl rfl ?_
              refine WL.fin hK2262 (fun _ _ h => h) ?_
              refine WC.condF rfl rfl ?_
              refine WC.seq fun K2263 hK2263 => ?_
              -- region 15
              refine WC.region ?_
              -- R15.0 128 := more.go:72 binOp
              refine WL.v (by first | exact r_eql rfl rfl (decide_eq_true (by omega)) | exact r_eql rfl rfl (decide_eq_false (by omega)) | exact r_eql rfl rfl rfl) rfl rfl rfl ?_
              -- R15.1 126 := more.go:72 assign
              refine WL.v (by first | exact r_assign (v := .bool _) rfl | exact r_assign rfl) rfl rfl rfl ?_
              refine WL.fin hK2263 (fun _ _ h => h) ?_
              refine WC.condF rfl rfl ?_
              -- region 16
              refine WC.region ?_
              -- R16.0 129 := more.go:72 binOp
              refine WL.v (by first | exact r_eql rfl rfl (decide_eq_true (by omega)) | exact r_eql rfl rfl (decide_eq_false (by omega)) | exact r_eql rfl rfl rfl) rfl rfl rfl ?_
              -- R16.1 126 := more.go:72 assign
              refine WL.v (by first | exact r_assign (v := .bool _) rfl | exact r_assign rfl) rfl rfl rfl ?_
              refine WL.fin hK2261 (fun _ _ h => h) ?_
              refine WC.condT rfl rfl ?_
              refine WC.seq fun K2264 hK2264 => ?_
              -- region 17 (draws)
              refine WC.quietS st ty_mixed (by kernel_rfl) fun Kq hKq => ?_
              -- R17.0 130 := more.go:73 fieldAddr
              refine QL.v (fun w st => by exact r_field ty_fld36_1 rfl) rfl rfl rfl ?_
              -- R17.1 131 := more.go:73 load
              refine QL.v (fun w st => by exact r_load1 (v := .pointer (some ⟨bB, 0, none⟩)) ty_one29 rfl (by rw [← f5]; exact st.c1 (by decide))) rfl rfl rfl ?_
              -- R17.2 132 := more.go:73 nilCheck
              refine QL.v (fun w st => by exact r_nilCheck rfl) rfl rfl rfl ?_
              -- R17.3 133 := more.go:73 fieldAddr
              refine QL.v (fun w st => by exact r_field ty_fld50_0 rfl) rfl rfl rfl ?_
              -- R17.4 134 := more.go:73 load
              refine QL.v (fun w st => by exact r_load1 (v := .int .i64 (s.mode : Nat)) ty_one40 rfl (c_s (hck2 _ _).B (by decide) rfl st)) rfl rfl rfl ?_
              -- R17.5 135 := more.go:73 binOp
              refine QL.v (fun w st => by first | exact r_eql rfl rfl (decide_eq_true (by omega)) | exact r_eql rfl rfl (decide_eq_false (by omega)) | exact r_eql rfl rfl rfl) rfl rfl rfl ?_
              -- R17.6 136 := more.go:73 move
              refine QL.v (fun w st => by first | exact r_move (v := .bool _) rfl | exact r_move rfl) rfl rfl rfl ?_
              -- R17.7 137 := more.go:73 fieldAddr
              refine QL.v (fun w st => by exact r_field ty_fld36_0 rfl) rfl rfl rfl ?_
              -- R17.8 138 := more.go:73 fieldAddr
              refine QL.v (fun w st => by exact r_field ty_fld28_3 rfl) rfl rfl rfl ?_
              -- R17.9 139 := more.go:73 load
              refine QL.v (fun w st => by exact r_load1 (v := .int .i64 o.C) ty_one2 rfl (by rw [← f3]; exact st.c1 (by decide))) rfl rfl rfl ?_
              -- R17.10 140 := more.go:73 fieldAddr
              refine QL.v (fun w st => by exact r_field ty_fld36_1 rfl) rfl rfl rfl ?_
              -- R17.11 141 := more.go:73 load
              refine QL.v (fun w st => by exact r_load1 (v := .pointer (some ⟨bB, 0, none⟩)) ty_one29 rfl (by rw [← f5]; exact st.c1 (by decide))) rfl rfl rfl ?_
              -- R17.12 142 := more.go:73 move
              refine QL.v (fun w st => by exact r_move (v := .int .i64 (t : Nat)) (congrArg (Value.int .i64) hT)) rfl rfl rfl ?_
              -- R17.13 143 := more.go:73 move
              refine QL.v (fun w st => by first | exact r_move (v := .int _ _) rfl | exact r_move rfl) rfl rfl rfl ?_
              -- R17.14 144 := more.go:73 nilCheck
              refine QL.v (fun w st => by exact r_nilCheck rfl) rfl rfl rfl ?_
              -- R17.15 145 := more.go:73 fieldAddr
              refine QL.v (fun w st => by exact r_field ty_fld50_5 rfl) rfl rfl rfl ?_
              -- R17.16 146 := more.go:73 indexAddr
              refine QL.v (fun w st => by exact r_indexA (j := t) ty_ar45 rfl rfl rfl ht16) rfl rfl rfl ?_
              -- R17.17 147 := more.go:73 indexAddr
              refine QL.v (fun w st => by exact r_indexA (j := r) ty_ar44 rfl rfl rfl hr20) rfl rfl rfl ?_
              -- R17.18 148 := more.go:73 load
              refine QL.v (fun w st => by exact r_load1 (v := .int .i64 (s.claim t r : Nat)) ty_one3 rfl (c_sC (hck2 _ _).B ht16 hr20 (by omega) st)) rfl rfl rfl ?_
              -- R17.19 149 := more.go:73 fieldAddr
              refine QL.v (fun w st => by exact r_field ty_fld36_1 rfl) rfl rfl rfl ?_
              -- R17.20 150 := more.go:73 load
              refine QL.v (fun w st => by exact r_load1 (v := .pointer (some ⟨bB, 0, none⟩)) ty_one29 rfl (by rw [← f5]; exact st.c1 (by decide))) rfl rfl rfl ?_
              -- R17.21 151 := more.go:73 move
              refine QL.v (fun w st => by exact r_move (v := .int .i64 (t : Nat)) (congrArg (Value.int .i64) hT)) rfl rfl rfl ?_
              -- R17.22 152 := more.go:73 move
              refine QL.v (fun w st => by first | exact r_move (v := .int _ _) rfl | exact r_move rfl) rfl rfl rfl ?_
              -- R17.23 153 := more.go:73 nilCheck
              refine QL.v (fun w st => by exact r_nilCheck rfl) rfl rfl rfl ?_
              -- R17.24 154 := more.go:73 fieldAddr
              refine QL.v (fun w st => by exact r_field ty_fld50_4 rfl) rfl rfl rfl ?_
              -- R17.25 155 := more.go:73 indexAddr
              refine QL.v (fun w st => by exact r_indexA (j := t) ty_ar45 rfl rfl rfl ht16) rfl rfl rfl ?_
              -- R17.26 156 := more.go:73 indexAddr
              refine QL.v (fun w st => by exact r_indexA (j := r) ty_ar44 rfl rfl rfl hr20) rfl rfl rfl ?_
              -- R17.27 157 := more.go:73 load
              refine QL.v (fun w st => by exact r_load1 (v := .int .i64 (s.held t r : Nat)) ty_one3 rfl (c_sH (hck2 _ _).B ht16 hr20 (by omega) st)) rfl rfl rfl ?_
              -- R17.28 158 := more.go:73 binOp
              refine QL.v (fun w st => by exact r_sub (r := (s.claim t r : Int) - s.held t r) rfl rfl (wi64 (by omega) (by omega))) rfl rfl rfl ?_
              -- R17.29 159 := more.go:73 binOp
              refine QL.v (fun w st => by exact r_gtr rfl rfl (decide_eq_true hnc)) rfl rfl rfl ?_
              -- R17.30 160 := more.go:73 pick
              refine QL.v (fun w st => by first | exact r_pickT (v := .bool _) rfl rfl | exact r_pickF (v := .bool _) rfl rfl) rfl rfl rfl ?_
              -- R17.31 7 := more.go:73 assign
              refine QL.v (fun w st => by first | exact r_assign (v := .bool _) rfl | exact r_assign rfl) rfl rfl rfl ?_
              refine QL.wl hKq fun w st => ?_
              refine WL.fin hK2264 (fun _ _ h => h) ?_
              refine WC.seq fun K2265 hK2265 => ?_
              -- region 18
              refine WC.region ?_
              -- R18.0 161 := more.go:74 fieldAddr
              refine WL.v (by exact r_field ty_fld36_3 rfl) rfl rfl rfl ?_
              -- R18.1 162 := more.go:74 fieldAddr
              refine WL.v (by exact r_field ty_fld34_0 rfl) rfl rfl rfl ?_
              -- R18.2 163 := more.go:74 load
              refine WL.v (by exact r_load1 (v := .int .i64 code) ty_one30 rfl (by rw [← f7]; exact st.c1 (by decide))) rfl rfl rfl ?_
              -- R18.3 164 := more.go:74 binOp
              refine WL.v (by first | exact r_neq rfl rfl (decide_eq_true (by omega)) | exact r_neq rfl rfl (decide_eq_false (by omega)) | exact r_neq rfl rfl rfl) rfl rfl rfl ?_
              -- R18.4 165 := more.go:74 move
              refine WL.v (by first | exact r_move (v := .bool _) rfl | exact r_move rfl) rfl rfl rfl ?_
              -- R18.5 166 := more.go:74 fieldAddr
              refine WL.no rfl rfl ?_
              -- R18.6 167 := more.go:74 fieldAddr
              refine WL.no rfl rfl ?_
              -- R18.7 168 := more.go:74 load
              refine WL.no rfl rfl ?_
              -- R18.8 169 := more.go:74 binOp
              refine WL.no rfl rfl ?_
              -- R18.9 170 := more.go:74 pick
              refine WL.v (by first | exact r_pickT (v := .bool _) rfl rfl | exact r_pickF (v := .bool _) rfl rfl) rfl rfl rfl ?_
              -- R18.10 8 := more.go:74 assign
              refine WL.v (by first | exact r_assign (v := .bool _) rfl | exact r_assign rfl) rfl rfl rfl ?_
              refine WL.fin hK2265 (fun _ _ h => h) ?_
              refine WC.seq fun K2266 hK2266 => ?_
              -- region 19
              refine WC.region ?_
              -- R19.0 171 := more.go:75 move
              refine WL.v (by first | exact r_move (v := .bool _) rfl | exact r_move rfl) rfl rfl rfl ?_
              -- R19.1 172 := more.go:75 move
              refine WL.v (by first | exact r_move (v := .bool _) rfl | exact r_move rfl) rfl rfl rfl ?_
              -- R19.2 173 := more.go:75 move
              refine WL.no rfl rfl ?_
              -- R19.3 174 := more.go:75 fieldAddr
              refine WL.no rfl rfl ?_
              -- R19.4 175 := more.go:75 fieldAddr
              refine WL.no rfl rfl ?_
              -- R19.5 176 := more.go:75 load
              refine WL.no rfl rfl ?_
              -- R19.6 177 := more.go:75 binOp
              refine WL.no rfl rfl ?_
              -- R19.7 178 := more.go:75 binOp
              refine WL.no rfl rfl ?_
              -- R19.8 179 := more.go:75 pick
              refine WL.v (by first | exact r_pickT (v := .bool _) rfl rfl | exact r_pickF (v := .bool _) rfl rfl) rfl rfl rfl ?_
              refine WL.fin hK2266 (fun _ _ h => h) ?_
              refine WC.condF rfl rfl ?_
              refine WC.skipJ hKC (fun _ _ h => h) () (by rw [hcs]; exact st) (by repeat (first | exact sub_nil _ | refine sub_cons rfl rfl ?_))
          by_cases h15 : code = 15
          · skip
            rcases (by omega : o.kind = 3 ∨ o.kind = 4 ∨ o.kind = 5) with hk3 | hk4 | hk5
            · skip
              refine WC.seq fun K2267 hK2267 => ?_
              -- region 6
              refine WC.region ?_
              -- R6.0 60 := more.go:62 fieldAddr
              refine WL.v (by exact r_field ty_fld36_0 rfl) rfl rfl rfl ?_
              -- R6.1 61 := more.go:62 fieldAddr
              refine WL.v (by exact r_field ty_fld28_0 rfl) rfl rfl rfl ?_
              -- R6.2 62 := more.go:62 load
              refine WL.v (by exact r_load1 (v := .int .u8 (o.kind : Nat)) ty_one25 rfl (by rw [← f0]; exact st.c1 (by decide))) rfl rfl rfl ?_
              refine WL.fin hK2267 (fun _ _ h => h) ?_
              refine WC.block ?_
              refine WC.seq fun K2268 hK2268 => ?_
              -- region 7
              refine WC.region ?_
              -- R7.0 64 := more.go:63 binOp
              refine WL.v (by first | exact r_eql rfl rfl (decide_eq_true (by omega)) | exact r_eql rfl rfl (decide_eq_false (by omega)) | exact r_eql rfl rfl rfl) rfl rfl rfl ?_
              -- R7.1 63 := more.go:63 assign
              refine WL.v (by first | exact r_assign (v := .bool _) rfl | exact r_assign rfl) rfl rfl rfl ?_
              refine WL.fin hK2268 (fun _ _ h => h) ?_
              refine WC.condF rfl rfl ?_
              refine WC.seq fun K2269 hK2269 => ?_
              refine WC.seq fun K2270 hK2270 => ?_
              -- region 14
              refine WC.region ?_
              -- R14.0 127 := more.go:72 binOp
              refine WL.v (by first | exact r_eql rfl rfl (decide_eq_true (by omega)) | exact r_eql rfl rfl (decide_eq_false (by omega)) | exact r_eql rfl rfl rfl) rfl rfl rfl ?_
              -- R14.1 126 := more.go:72 assign
              refine WL.v (by first | exact r_assign (v := .bool _) rfl | exact r_assign rfl) rfl rfl rfl ?_
              refine WL.fin hK2270 (fun _ _ h => h) ?_
              refine WC.condT rfl rfl ?_
              refine WC.skipF hK2269 (fun _ _ h => h) ?_
              refine WC.condT rfl rfl ?_
              refine WC.seq fun K2271 hK2271 => ?_
              -- region 17 (draws)
              refine WC.quietS st ty_mixed (by kernel_rfl) fun Kq hKq => ?_
              -- R17.0 130 := more.go:73 fieldAddr
              refine QL.v (fun w st => by exact r_field ty_fld36_1 rfl) rfl rfl rfl ?_
              -- R17.1 131 := more.go:73 load
              refine QL.v (fun w st => by exact r_load1 (v := .pointer (some ⟨bB, 0, none⟩)) ty_one29 rfl (by rw [← f5]; exact st.c1 (by decide))) rfl rfl rfl ?_
              -- R17.2 132 := more.go:73 nilCheck
              refine QL.v (fun w st => by exact r_nilCheck rfl) rfl rfl rfl ?_
              -- R17.3 133 := more.go:73 fieldAddr
              refine QL.v (fun w st => by exact r_field ty_fld50_0 rfl) rfl rfl rfl ?_
              -- R17.4 134 := more.go:73 load
              refine QL.v (fun w st => by exact r_load1 (v := .int .i64 (s.mode : Nat)) ty_one40 rfl (c_s (hck2 _ _).B (by decide) rfl st)) rfl rfl rfl ?_
              -- R17.5 135 := more.go:73 binOp
              refine QL.v (fun w st => by first | exact r_eql rfl rfl (decide_eq_true (by omega)) | exact r_eql rfl rfl (decide_eq_false (by omega)) | exact r_eql rfl rfl rfl) rfl rfl rfl ?_
              -- R17.6 136 := more.go:73 move
              refine QL.v (fun w st => by first | exact r_move (v := .bool _) rfl | exact r_move rfl) rfl rfl rfl ?_
              -- R17.7 137 := more.go:73 fieldAddr
              refine QL.v (fun w st => by exact r_field ty_fld36_0 rfl) rfl rfl rfl ?_
              -- R17.8 138 := more.go:73 fieldAddr
              refine QL.v (fun w st => by exact r_field ty_fld28_3 rfl) rfl rfl rfl ?_
              -- R17.9 139 := more.go:73 load
              refine QL.v (fun w st => by exact r_load1 (v := .int .i64 o.C) ty_one2 rfl (by rw [← f3]; exact st.c1 (by decide))) rfl rfl rfl ?_
              -- R17.10 140 := more.go:73 fieldAddr
              refine QL.v (fun w st => by exact r_field ty_fld36_1 rfl) rfl rfl rfl ?_
              -- R17.11 141 := more.go:73 load
              refine QL.v (fun w st => by exact r_load1 (v := .pointer (some ⟨bB, 0, none⟩)) ty_one29 rfl (by rw [← f5]; exact st.c1 (by decide))) rfl rfl rfl ?_
              -- R17.12 142 := more.go:73 move
              refine QL.v (fun w st => by exact r_move (v := .int .i64 (t : Nat)) (congrArg (Value.int .i64) hT)) rfl rfl rfl ?_
              -- R17.13 143 := more.go:73 move
              refine QL.v (fun w st => by first | exact r_move (v := .int _ _) rfl | exact r_move rfl) rfl rfl rfl ?_
              -- R17.14 144 := more.go:73 nilCheck
              refine QL.v (fun w st => by exact r_nilCheck rfl) rfl rfl rfl ?_
              -- R17.15 145 := more.go:73 fieldAddr
              refine QL.v (fun w st => by exact r_field ty_fld50_5 rfl) rfl rfl rfl ?_
              -- R17.16 146 := more.go:73 indexAddr
              refine QL.v (fun w st => by exact r_indexA (j := t) ty_ar45 rfl rfl rfl ht16) rfl rfl rfl ?_
              -- R17.17 147 := more.go:73 indexAddr
              refine QL.v (fun w st => by exact r_indexA (j := r) ty_ar44 rfl rfl rfl hr20) rfl rfl rfl ?_
              -- R17.18 148 := more.go:73 load
              refine QL.v (fun w st => by exact r_load1 (v := .int .i64 (s.claim t r : Nat)) ty_one3 rfl (c_sC (hck2 _ _).B ht16 hr20 (by omega) st)) rfl rfl rfl ?_
              -- R17.19 149 := more.go:73 fieldAddr
              refine QL.v (fun w st => by exact r_field ty_fld36_1 rfl) rfl rfl rfl ?_
              -- R17.20 150 := more.go:73 load
              refine QL.v (fun w st => by exact r_load1 (v := .pointer (some ⟨bB, 0, none⟩)) ty_one29 rfl (by rw [← f5]; exact st.c1 (by decide))) rfl rfl rfl ?_
              -- R17.21 151 := more.go:73 move
              refine QL.v (fun w st => by exact r_move (v := .int .i64 (t : Nat)) (congrArg (Value.int .i64) hT)) rfl rfl rfl ?_
              -- R17.22 152 := more.go:73 move
              refine QL.v (fun w st => by first | exact r_move (v := .int _ _) rfl | exact r_move rfl) rfl rfl rfl ?_
              -- R17.23 153 := more.go:73 nilCheck
              refine QL.v (fun w st => by exact r_nilCheck rfl) rfl rfl rfl ?_
              -- R17.24 154 := more.go:73 fieldAddr
              refine QL.v (fun w st => by exact r_field ty_fld50_4 rfl) rfl rfl rfl ?_
              -- R17.25 155 := more.go:73 indexAddr
              refine QL.v (fun w st => by exact r_indexA (j := t) ty_ar45 rfl rfl rfl ht16) rfl rfl rfl ?_
              -- R17.26 156 := more.go:73 indexAddr
              refine QL.v (fun w st => by exact r_indexA (j := r) ty_ar44 rfl rfl rfl hr20) rfl rfl rfl ?_
              -- R17.27 157 := more.go:73 load
              refine QL.v (fun w st => by exact r_load1 (v := .int .i64 (s.held t r : Nat)) ty_one3 rfl (c_sH (hck2 _ _).B ht16 hr20 (by omega) st)) rfl rfl rfl ?_
              -- R17.28 158 := more.go:73 binOp
              refine QL.v (fun w st => by exact r_sub (r := (s.claim t r : Int) - s.held t r) rfl rfl (wi64 (by omega) (by omega))) rfl rfl rfl ?_
              -- R17.29 159 := more.go:73 binOp
              refine QL.v (fun w st => by exact r_gtr rfl rfl (decide_eq_true hnc)) rfl rfl rfl ?_
              -- R17.30 160 := more.go:73 pick
              refine QL.v (fun w st => by first | exact r_pickT (v := .bool _) rfl rfl | exact r_pickF (v := .bool _) rfl rfl) rfl rfl rfl ?_
              -- R17.31 7 := more.go:73 assign
              refine QL.v (fun w st => by first | exact r_assign (v := .bool _) rfl | exact r_assign rfl) rfl rfl rfl ?_
              refine QL.wl hKq fun w st => ?_
              refine WL.fin hK2271 (fun _ _ h => h) ?_
              refine WC.seq fun K2272 hK2272 => ?_
              -- region 18
              refine WC.region ?_
              -- R18.0 161 := more.go:74 fieldAddr
              refine WL.v (by exact r_field ty_fld36_3 rfl) rfl rfl rfl ?_
              -- R18.1 162 := more.go:74 fieldAddr
              refine WL.v (by exact r_field ty_fld34_0 rfl) rfl rfl rfl ?_
              -- R18.2 163 := more.go:74 load
              refine WL.v (by exact r_load1 (v := .int .i64 code) ty_one30 rfl (by rw [← f7]; exact st.c1 (by decide))) rfl rfl rfl ?_
              -- R18.3 164 := more.go:74 binOp
              refine WL.v (by first | exact r_neq rfl rfl (decide_eq_true (by omega)) | exact r_neq rfl rfl (decide_eq_false (by omega)) | exact r_neq rfl rfl rfl) rfl rfl rfl ?_
              -- R18.4 165 := more.go:74 move
              refine WL.v (by first | exact r_move (v := .bool _) rfl | exact r_move rfl) rfl rfl rfl ?_
              -- R18.5 166 := more.go:74 fieldAddr
              refine WL.v (by exact r_field ty_fld36_3 rfl) rfl rfl rfl ?_
              -- R18.6 167 := more.go:74 fieldAddr
              refine WL.v (by exact r_field ty_fld34_0 rfl) rfl rfl rfl ?_
              -- R18.7 168 := more.go:74 load
              refine WL.v (by exact r_load1 (v := .int .i64 code) ty_one30 rfl (by rw [← f7]; exact st.c1 (by decide))) rfl rfl rfl ?_
              -- R18.8 169 := more.go:74 binOp
              refine WL.v (by first | exact r_neq rfl rfl (decide_eq_true (by omega)) | exact r_neq rfl rfl (decide_eq_false (by omega)) | exact r_neq rfl rfl rfl) rfl rfl rfl ?_
              -- R18.9 170 := more.go:74 pick
              refine WL.v (by first | exact r_pickT (v := .bool _) rfl rfl | exact r_pickF (v := .bool _) rfl rfl) rfl rfl rfl ?_
              -- R18.10 8 := more.go:74 assign
              refine WL.v (by first | exact r_assign (v := .bool _) rfl | exact r_assign rfl) rfl rfl rfl ?_
              refine WL.fin hK2272 (fun _ _ h => h) ?_
              refine WC.seq fun K2273 hK2273 => ?_
              -- region 19
              refine WC.region ?_
              -- R19.0 171 := more.go:75 move
              refine WL.v (by first | exact r_move (v := .bool _) rfl | exact r_move rfl) rfl rfl rfl ?_
              -- R19.1 172 := more.go:75 move
              refine WL.v (by first | exact r_move (v := .bool _) rfl | exact r_move rfl) rfl rfl rfl ?_
              -- R19.2 173 := more.go:75 move
              refine WL.no rfl rfl ?_
              -- R19.3 174 := more.go:75 fieldAddr
              refine WL.no rfl rfl ?_
              -- R19.4 175 := more.go:75 fieldAddr
              refine WL.no rfl rfl ?_
              -- R19.5 176 := more.go:75 load
              refine WL.no rfl rfl ?_
              -- R19.6 177 := more.go:75 binOp
              refine WL.no rfl rfl ?_
              -- R19.7 178 := more.go:75 binOp
              refine WL.no rfl rfl ?_
              -- R19.8 179 := more.go:75 pick
              refine WL.v (by first | exact r_pickT (v := .bool _) rfl rfl | exact r_pickF (v := .bool _) rfl rfl) rfl rfl rfl ?_
              refine WL.fin hK2273 (fun _ _ h => h) ?_
              refine WC.condF rfl rfl ?_
              refine WC.skipJ hKC (fun _ _ h => h) () (by rw [hcs]; exact st) (by repeat (first | exact sub_nil _ | refine sub_cons rfl rfl ?_))
            · skip
              refine WC.seq fun K2274 hK2274 => ?_
              -- region 6
              refine WC.region ?_
              -- R6.0 60 := more.go:62 fieldAddr
              refine WL.v (by exact r_field ty_fld36_0 rfl) rfl rfl rfl ?_
              -- R6.1 61 := more.go:62 fieldAddr
              refine WL.v (by exact r_field ty_fld28_0 rfl) rfl rfl rfl ?_
              -- R6.2 62 := more.go:62 load
              refine WL.v (by exact r_load1 (v := .int .u8 (o.kind : Nat)) ty_one25 rfl (by rw [← f0]; exact st.c1 (by decide))) rfl rfl rfl ?_
              refine WL.fin hK2274 (fun _ _ h => h) ?_
              refine WC.block ?_
              refine WC.seq fun K2275 hK2275 => ?_
              -- region 7
              refine WC.region ?_
              -- R7.0 64 := more.go:63 binOp
              refine WL.v (by first | exact r_eql rfl rfl (decide_eq_true (by omega)) | exact r_eql rfl rfl (decide_eq_false (by omega)) | exact r_eql rfl rfl rfl) rfl rfl rfl ?_
              -- R7.1 63 := more.go:63 assign
              refine WL.v (by first | exact r_assign (v := .bool _) rfl | exact r_assign rfl) rfl rfl rfl ?_
              refine WL.fin hK2275 (fun _ _ h => h) ?_
              refine WC.condF rfl rfl ?_
              refine WC.seq fun K2276 hK2276 => ?_
              refine WC.seq fun K2277 hK2277 => ?_
              -- region 14
              refine WC.region ?_
              -- R14.0 127 := more.go:72 binOp
              refine WL.v (by first | exact r_eql rfl rfl (decide_eq_true (by omega)) | exact r_eql rfl rfl (decide_eq_false (by omega)) | exact r_eql rfl rfl rfl) rfl rfl rfl ?_
              -- R14.1 126 := more.go:72 assign
              refine WL.v (by first | exact r_assign (v := .bool _) rfl | exact r_assign rfl) rfl rfl rfl ?_
              refine WL.fin hK2277 (fun _ _ h => h) ?_
              refine WC.condF rfl rfl ?_
              refine WC.seq fun K2278 hK2278 => ?_
              -- region 15
              refine WC.region ?_
              -- R15.0 128 := more.go:72 binOp
              refine WL.v (by first | exact r_eql rfl rfl (decide_eq_true (by omega)) | exact r_eql rfl rfl (decide_eq_false (by omega)) | exact r_eql rfl rfl rfl) rfl rfl rfl ?_
              -- R15.1 126 := more.go:72 assign
              refine WL.v (by first | exact r_assign (v := .bool _) rfl | exact r_assign rfl) rfl rfl rfl ?_
              refine WL.fin hK2278 (fun _ _ h => h) ?_
              refine WC.condT rfl rfl ?_
              refine WC.skipF hK2276 (fun _ _ h => h) ?_
              refine WC.condT rfl rfl ?_
              refine WC.seq fun K2279 hK2279 => ?_
              -- region 17 (draws)
              refine WC.quietS st ty_mixed (by kernel_rfl) fun Kq hKq => ?_
              -- R17.0 130 := more.go:73 fieldAddr
              refine QL.v (fun w st => by exact r_field ty_fld36_1 rfl) rfl rfl rfl ?_
              -- R17.1 131 := more.go:73 load
              refine QL.v (fun w st => by exact r_load1 (v := .pointer (some ⟨bB, 0, none⟩)) ty_one29 rfl (by rw [← f5]; exact st.c1 (by decide))) rfl rfl rfl ?_
              -- R17.2 132 := more.go:73 nilCheck
              refine QL.v (fun w st => by exact r_nilCheck rfl) rfl rfl rfl ?_
              -- R17.3 133 := more.go:73 fieldAddr
              refine QL.v (fun w st => by exact r_field ty_fld50_0 rfl) rfl rfl rfl ?_
              -- R17.4 134 := more.go:73 load
              refine QL.v (fun w st => by exact r_load1 (v := .int .i64 (s.mode : Nat)) ty_one40 rfl (c_s (hck2 _ _).B (by decide) rfl st)) rfl rfl rfl ?_
              -- R17.5 135 := more.go:73 binOp
              refine QL.v (fun w st => by first | exact r_eql rfl rfl (decide_eq_true (by omega)) | exact r_eql rfl rfl (decide_eq_false (by omega)) | exact r_eql rfl rfl rfl) rfl rfl rfl ?_
              -- R17.6 136 := more.go:73 move
              refine QL.v (fun w st => by first | exact r_move (v := .bool _) rfl | exact r_move rfl) rfl rfl rfl ?_
              -- R17.7 137 := more.go:73 fieldAddr
              refine QL.v (fun w st => by exact r_field ty_fld36_0 rfl) rfl rfl rfl ?_
              -- R17.8 138 := more.go:73 fieldAddr
              refine QL.v (fun w st => by exact r_field ty_fld28_3 rfl) rfl rfl rfl ?_
              -- R17.9 139 := more.go:73 load
              refine QL.v (fun w st => by exact r_load1 (v := .int .i64 o.C) ty_one2 rfl (by rw [← f3]; exact st.c1 (by decide))) rfl rfl rfl ?_
              -- R17.10 140 := more.go:73 fieldAddr
              refine QL.v (fun w st => by exact r_field ty_fld36_1 rfl) rfl rfl rfl ?_
              -- R17.11 141 := more.go:73 load
              refine QL.v (fun w st => by exact r_load1 (v := .pointer (some ⟨bB, 0, none⟩)) ty_one29 rfl (by rw [← f5]; exact st.c1 (by decide))) rfl rfl rfl ?_
              -- R17.12 142 := more.go:73 move
              refine QL.v (fun w st => by exact r_move (v := .int .i64 (t : Nat)) (congrArg (Value.int .i64) hT)) rfl rfl rfl ?_
              -- R17.13 143 := more.go:73 move
              refine QL.v (fun w st => by first | exact r_move (v := .int _ _) rfl | exact r_move rfl) rfl rfl rfl ?_
              -- R17.14 144 := more.go:73 nilCheck
              refine QL.v (fun w st => by exact r_nilCheck rfl) rfl rfl rfl ?_
              -- R17.15 145 := more.go:73 fieldAddr
              refine QL.v (fun w st => by exact r_field ty_fld50_5 rfl) rfl rfl rfl ?_
              -- R17.16 146 := more.go:73 indexAddr
              refine QL.v (fun w st => by exact r_indexA (j := t) ty_ar45 rfl rfl rfl ht16) rfl rfl rfl ?_
              -- R17.17 147 := more.go:73 indexAddr
              refine QL.v (fun w st => by exact r_indexA (j := r) ty_ar44 rfl rfl rfl hr20) rfl rfl rfl ?_
              -- R17.18 148 := more.go:73 load
              refine QL.v (fun w st => by exact r_load1 (v := .int .i64 (s.claim t r : Nat)) ty_one3 rfl (c_sC (hck2 _ _).B ht16 hr20 (by omega) st)) rfl rfl rfl ?_
              -- R17.19 149 := more.go:73 fieldAddr
              refine QL.v (fun w st => by exact r_field ty_fld36_1 rfl) rfl rfl rfl ?_
              -- R17.20 150 := more.go:73 load
              refine QL.v (fun w st => by exact r_load1 (v := .pointer (some ⟨bB, 0, none⟩)) ty_one29 rfl (by rw [← f5]; exact st.c1 (by decide))) rfl rfl rfl ?_
              -- R17.21 151 := more.go:73 move
              refine QL.v (fun w st => by exact r_move (v := .int .i64 (t : Nat)) (congrArg (Value.int .i64) hT)) rfl rfl rfl ?_
              -- R17.22 152 := more.go:73 move
              refine QL.v (fun w st => by first | exact r_move (v := .int _ _) rfl | exact r_move rfl) rfl rfl rfl ?_
              -- R17.23 153 := more.go:73 nilCheck
              refine QL.v (fun w st => by exact r_nilCheck rfl) rfl rfl rfl ?_
              -- R17.24 154 := more.go:73 fieldAddr
              refine QL.v (fun w st => by exact r_field ty_fld50_4 rfl) rfl rfl rfl ?_
              -- R17.25 155 := more.go:73 indexAddr
              refine QL.v (fun w st => by exact r_indexA (j := t) ty_ar45 rfl rfl rfl ht16) rfl rfl rfl ?_
              -- R17.26 156 := more.go:73 indexAddr
              refine QL.v (fun w st => by exact r_indexA (j := r) ty_ar44 rfl rfl rfl hr20) rfl rfl rfl ?_
              -- R17.27 157 := more.go:73 load
              refine QL.v (fun w st => by exact r_load1 (v := .int .i64 (s.held t r : Nat)) ty_one3 rfl (c_sH (hck2 _ _).B ht16 hr20 (by omega) st)) rfl rfl rfl ?_
              -- R17.28 158 := more.go:73 binOp
              refine QL.v (fun w st => by exact r_sub (r := (s.claim t r : Int) - s.held t r) rfl rfl (wi64 (by omega) (by omega))) rfl rfl rfl ?_
              -- R17.29 159 := more.go:73 binOp
              refine QL.v (fun w st => by exact r_gtr rfl rfl (decide_eq_true hnc)) rfl rfl rfl ?_
              -- R17.30 160 := more.go:73 pick
              refine QL.v (fun w st => by first | exact r_pickT (v := .bool _) rfl rfl | exact r_pickF (v := .bool _) rfl rfl) rfl rfl rfl ?_
              -- R17.31 7 := more.go:73 assign
              refine QL.v (fun w st => by first | exact r_assign (v := .bool _) rfl | exact r_assign rfl) rfl rfl rfl ?_
              refine QL.wl hKq fun w st => ?_
              refine WL.fin hK2279 (fun _ _ h => h) ?_
              refine WC.seq fun K2280 hK2280 => ?_
              -- region 18
              refine WC.region ?_
              -- R18.0 161 := more.go:74 fieldAddr
              refine WL.v (by exact r_field ty_fld36_3 rfl) rfl rfl rfl ?_
              -- R18.1 162 := more.go:74 fieldAddr
              refine WL.v (by exact r_field ty_fld34_0 rfl) rfl rfl rfl ?_
              -- R18.2 163 := more.go:74 load
              refine WL.v (by exact r_load1 (v := .int .i64 code) ty_one30 rfl (by rw [← f7]; exact st.c1 (by decide))) rfl rfl rfl ?_
              -- R18.3 164 := more.go:74 binOp
              refine WL.v (by first | exact r_neq rfl rfl (decide_eq_true (by omega)) | exact r_neq rfl rfl (decide_eq_false (by omega)) | exact r_neq rfl rfl rfl) rfl rfl rfl ?_
              -- R18.4 165 := more.go:74 move
              refine WL.v (by first | exact r_move (v := .bool _) rfl | exact r_move rfl) rfl rfl rfl ?_
              -- R18.5 166 := more.go:74 fieldAddr
              refine WL.v (by exact r_field ty_fld36_3 rfl) rfl rfl rfl ?_
              -- R18.6 167 := more.go:74 fieldAddr
              refine WL.v (by exact r_field ty_fld34_0 rfl) rfl rfl rfl ?_
              -- R18.7 168 := more.go:74 load
              refine WL.v (by exact r_load1 (v := .int .i64 code) ty_one30 rfl (by rw [← f7]; exact st.c1 (by decide))) rfl rfl rfl ?_
              -- R18.8 169 := more.go:74 binOp
              refine WL.v (by first | exact r_neq rfl rfl (decide_eq_true (by omega)) | exact r_neq rfl rfl (decide_eq_false (by omega)) | exact r_neq rfl rfl rfl) rfl rfl rfl ?_
              -- R18.9 170 := more.go:74 pick
              refine WL.v (by first | exact r_pickT (v := .bool _) rfl rfl | exact r_pickF (v := .bool _) rfl rfl) rfl rfl rfl ?_
              -- R18.10 8 := more.go:74 assign
              refine WL.v (by first | exact r_assign (v := .bool _) rfl | exact r_assign rfl) rfl rfl rfl ?_
              refine WL.fin hK2280 (fun _ _ h => h) ?_
              refine WC.seq fun K2281 hK2281 => ?_
              -- region 19
              refine WC.region ?_
              -- R19.0 171 := more.go:75 move
              refine WL.v (by first | exact r_move (v := .bool _) rfl | exact r_move rfl) rfl rfl rfl ?_
              -- R19.1 172 := more.go:75 move
              refine WL.v (by first | exact r_move (v := .bool _) rfl | exact r_move rfl) rfl rfl rfl ?_
              -- R19.2 173 := more.go:75 move
              refine WL.no rfl rfl ?_
              -- R19.3 174 := more.go:75 fieldAddr
              refine WL.no rfl rfl ?_
              -- R19.4 175 := more.go:75 fieldAddr
              refine WL.no rfl rfl ?_
              -- R19.5 176 := more.go:75 load
              refine WL.no rfl rfl ?_
              -- R19.6 177 := more.go:75 binOp
              refine WL.no rfl rfl ?_
              -- R19.7 178 := more.go:75 binOp
              refine WL.no rfl rfl ?_
              -- R19.8 179 := more.go:75 pick
              refine WL.v (by first | exact r_pickT (v := .bool _) rfl rfl | exact r_pickF (v := .bool _) rfl rfl) rfl rfl rfl ?_
              refine WL.fin hK2281 (fun _ _ h => h) ?_
              refine WC.condF rfl rfl ?_
              refine WC.skipJ hKC (fun _ _ h => h) () (by rw [hcs]; exact st) (by repeat (first | exact sub_nil _ | refine sub_cons rfl rfl ?_))
            · skip
              refine WC.seq fun K2282 hK2282 => ?_
              -- region 6
              refine WC.region ?_
              -- R6.0 60 := more.go:62 fieldAddr
              refine WL.v (by exact r_field ty_fld36_0 rfl) rfl rfl rfl ?_
              -- R6.1 61 := more.go:62 fieldAddr
              refine WL.v (by exact r_field ty_fld28_0 rfl) rfl rfl rfl ?_
              -- R6.2 62 := more.go:62 load
              refine WL.v (by exact r_load1 (v := .int .u8 (o.kind : Nat)) ty_one25 rfl (by rw [← f0]; exact st.c1 (by decide))) rfl rfl rfl ?_
              refine WL.fin hK2282 (fun _ _ h => h) ?_
              refine WC.block ?_
              refine WC.seq fun K2283 hK2283 => ?_
              -- region 7
              refine WC.region ?_
              -- R7.0 64 := more.go:63 binOp
              refine WL.v (by first | exact r_eql rfl rfl (decide_eq_true (by omega)) | exact r_eql rfl rfl (decide_eq_false (by omega)) | exact r_eql rfl rfl rfl) rfl rfl rfl ?_
              -- R7.1 63 := more.go:63 assign
              refine WL.v (by first | exact r_assign (v := .bool _) rfl | exact r_assign rfl) rfl rfl rfl ?_
              refine WL.fin hK2283 (fun _ _ h => h) ?_
              refine WC.condF rfl rfl ?_
              refine WC.seq fun K2284 hK2284 => ?_
              refine WC.seq fun K2285 hK2285 => ?_
              -- region 14
              refine WC.region ?_
              -- R14.0 127 := more.go:72 binOp
              refine WL.v (by first | exact r_eql rfl rfl (decide_eq_true (by omega)) | exact r_eql rfl rfl (decide_eq_false (by omega)) | exact r_eql rfl rfl rfl) rfl rfl rfl ?_
              -- R14.1 126 := more.go:72 assign
              refine WL.v (by first | exact r_assign (v := .bool _) rfl | exact r_assign rfl) rfl rfl rfl ?_
              refine WL.fin hK2285 (fun _ _ h => h) ?_
              refine WC.condF rfl rfl ?_
              refine WC.seq fun K2286 hK2286 => ?_
              -- region 15
              refine WC.region ?_
              -- R15.0 128 := more.go:72 binOp
              refine WL.v (by first | exact r_eql rfl rfl (decide_eq_true (by omega)) | exact r_eql rfl rfl (decide_eq_false (by omega)) | exact r_eql rfl rfl rfl) rfl rfl rfl ?_
              -- R15.1 126 := more.go:72 assign
              refine WL.v (by first | exact r_assign (v := .bool _) rfl | exact r_assign rfl) rfl rfl rfl ?_
              refine WL.fin hK2286 (fun _ _ h => h) ?_
              refine WC.condF rfl rfl ?_
              -- region 16
              refine WC.region ?_
              -- R16.0 129 := more.go:72 binOp
              refine WL.v (by first | exact r_eql rfl rfl (decide_eq_true (by omega)) | exact r_eql rfl rfl (decide_eq_false (by omega)) | exact r_eql rfl rfl rfl) rfl rfl rfl ?_
              -- R16.1 126 := more.go:72 assign
              refine WL.v (by first | exact r_assign (v := .bool _) rfl | exact r_assign rfl) rfl rfl rfl ?_
              refine WL.fin hK2284 (fun _ _ h => h) ?_
              refine WC.condT rfl rfl ?_
              refine WC.seq fun K2287 hK2287 => ?_
              -- region 17 (draws)
              refine WC.quietS st ty_mixed (by kernel_rfl) fun Kq hKq => ?_
              -- R17.0 130 := more.go:73 fieldAddr
              refine QL.v (fun w st => by exact r_field ty_fld36_1 rfl) rfl rfl rfl ?_
              -- R17.1 131 := more.go:73 load
              refine QL.v (fun w st => by exact r_load1 (v := .pointer (some ⟨bB, 0, none⟩)) ty_one29 rfl (by rw [← f5]; exact st.c1 (by decide))) rfl rfl rfl ?_
              -- R17.2 132 := more.go:73 nilCheck
              refine QL.v (fun w st => by exact r_nilCheck rfl) rfl rfl rfl ?_
              -- R17.3 133 := more.go:73 fieldAddr
              refine QL.v (fun w st => by exact r_field ty_fld50_0 rfl) rfl rfl rfl ?_
              -- R17.4 134 := more.go:73 load
              refine QL.v (fun w st => by exact r_load1 (v := .int .i64 (s.mode : Nat)) ty_one40 rfl (c_s (hck2 _ _).B (by decide) rfl st)) rfl rfl rfl ?_
              -- R17.5 135 := more.go:73 binOp
              refine QL.v (fun w st => by first | exact r_eql rfl rfl (decide_eq_true (by omega)) | exact r_eql rfl rfl (decide_eq_false (by omega)) | exact r_eql rfl rfl rfl) rfl rfl rfl ?_
              -- R17.6 136 := more.go:73 move
              refine QL.v (fun w st => by first | exact r_move (v := .bool _) rfl | exact r_move rfl) rfl rfl rfl ?_
              -- R17.7 137 := more.go:73 fieldAddr
              refine QL.v (fun w st => by exact r_field ty_fld36_0 rfl) rfl rfl rfl ?_
              -- R17.8 138 := more.go:73 fieldAddr
              refine QL.v (fun w st => by exact r_field ty_fld28_3 rfl) rfl rfl rfl ?_
              -- R17.9 139 := more.go:73 load
              refine QL.v (fun w st => by exact r_load1 (v := .int .i64 o.C) ty_one2 rfl (by rw [← f3]; exact st.c1 (by decide))) rfl rfl rfl ?_
              -- R17.10 140 := more.go:73 fieldAddr
              refine QL.v (fun w st => by exact r_field ty_fld36_1 rfl) rfl rfl rfl ?_
              -- R17.11 141 := more.go:73 load
              refine QL.v (fun w st => by exact r_load1 (v := .pointer (some ⟨bB, 0, none⟩)) ty_one29 rfl (by rw [← f5]; exact st.c1 (by decide))) rfl rfl rfl ?_
              -- R17.12 142 := more.go:73 move
              refine QL.v (fun w st => by exact r_move (v := .int .i64 (t : Nat)) (congrArg (Value.int .i64) hT)) rfl rfl rfl ?_
              -- R17.13 143 := more.go:73 move
              refine QL.v (fun w st => by first | exact r_move (v := .int _ _) rfl | exact r_move rfl) rfl rfl rfl ?_
              -- R17.14 144 := more.go:73 nilCheck
              refine QL.v (fun w st => by exact r_nilCheck rfl) rfl rfl rfl ?_
              -- R17.15 145 := more.go:73 fieldAddr
              refine QL.v (fun w st => by exact r_field ty_fld50_5 rfl) rfl rfl rfl ?_
              -- R17.16 146 := more.go:73 indexAddr
              refine QL.v (fun w st => by exact r_indexA (j := t) ty_ar45 rfl rfl rfl ht16) rfl rfl rfl ?_
              -- R17.17 147 := more.go:73 indexAddr
              refine QL.v (fun w st => by exact r_indexA (j := r) ty_ar44 rfl rfl rfl hr20) rfl rfl rfl ?_
              -- R17.18 148 := more.go:73 load
              refine QL.v (fun w st => by exact r_load1 (v := .int .i64 (s.claim t r : Nat)) ty_one3 rfl (c_sC (hck2 _ _).B ht16 hr20 (by omega) st)) rfl rfl rfl ?_
              -- R17.19 149 := more.go:73 fieldAddr
              refine QL.v (fun w st => by exact r_field ty_fld36_1 rfl) rfl rfl rfl ?_
              -- R17.20 150 := more.go:73 load
              refine QL.v (fun w st => by exact r_load1 (v := .pointer (some ⟨bB, 0, none⟩)) ty_one29 rfl (by rw [← f5]; exact st.c1 (by decide))) rfl rfl rfl ?_
              -- R17.21 151 := more.go:73 move
              refine QL.v (fun w st => by exact r_move (v := .int .i64 (t : Nat)) (congrArg (Value.int .i64) hT)) rfl rfl rfl ?_
              -- R17.22 152 := more.go:73 move
              refine QL.v (fun w st => by first | exact r_move (v := .int _ _) rfl | exact r_move rfl) rfl rfl rfl ?_
              -- R17.23 153 := more.go:73 nilCheck
              refine QL.v (fun w st => by exact r_nilCheck rfl) rfl rfl rfl ?_
              -- R17.24 154 := more.go:73 fieldAddr
              refine QL.v (fun w st => by exact r_field ty_fld50_4 rfl) rfl rfl rfl ?_
              -- R17.25 155 := more.go:73 indexAddr
              refine QL.v (fun w st => by exact r_indexA (j := t) ty_ar45 rfl rfl rfl ht16) rfl rfl rfl ?_
              -- R17.26 156 := more.go:73 indexAddr
              refine QL.v (fun w st => by exact r_indexA (j := r) ty_ar44 rfl rfl rfl hr20) rfl rfl rfl ?_
              -- R17.27 157 := more.go:73 load
              refine QL.v (fun w st => by exact r_load1 (v := .int .i64 (s.held t r : Nat)) ty_one3 rfl (c_sH (hck2 _ _).B ht16 hr20 (by omega) st)) rfl rfl rfl ?_
              -- R17.28 158 := more.go:73 binOp
              refine QL.v (fun w st => by exact r_sub (r := (s.claim t r : Int) - s.held t r) rfl rfl (wi64 (by omega) (by omega))) rfl rfl rfl ?_
              -- R17.29 159 := more.go:73 binOp
              refine QL.v (fun w st => by exact r_gtr rfl rfl (decide_eq_true hnc)) rfl rfl rfl ?_
              -- R17.30 160 := more.go:73 pick
              refine QL.v (fun w st => by first | exact r_pickT (v := .bool _) rfl rfl | exact r_pickF (v := .bool _) rfl rfl) rfl rfl rfl ?_
              -- R17.31 7 := more.go:73 assign
              refine QL.v (fun w st => by first | exact r_assign (v := .bool _) rfl | exact r_assign rfl) rfl rfl rfl ?_
              refine QL.wl hKq fun w st => ?_
              refine WL.fin hK2287 (fun _ _ h => h) ?_
              refine WC.seq fun K2288 hK2288 => ?_
              -- region 18
              refine WC.region ?_
              -- R18.0 161 := more.go:74 fieldAddr
              refine WL.v (by exact r_field ty_fld36_3 rfl) rfl rfl rfl ?_
              -- R18.1 162 := more.go:74 fieldAddr
              refine WL.v (by exact r_field ty_fld34_0 rfl) rfl rfl rfl ?_
              -- R18.2 163 := more.go:74 load
              refine WL.v (by exact r_load1 (v := .int .i64 code) ty_one30 rfl (by rw [← f7]; exact st.c1 (by decide))) rfl rfl rfl ?_
              -- R18.3 164 := more.go:74 binOp
              refine WL.v (by first | exact r_neq rfl rfl (decide_eq_true (by omega)) | exact r_neq rfl rfl (decide_eq_false (by omega)) | exact r_neq rfl rfl rfl) rfl rfl rfl ?_
              -- R18.4 165 := more.go:74 move
              refine WL.v (by first | exact r_move (v := .bool _) rfl | exact r_move rfl) rfl rfl rfl ?_
              -- R18.5 166 := more.go:74 fieldAddr
              refine WL.v (by exact r_field ty_fld36_3 rfl) rfl rfl rfl ?_
              -- R18.6 167 := more.go:74 fieldAddr
              refine WL.v (by exact r_field ty_fld34_0 rfl) rfl rfl rfl ?_
              -- R18.7 168 := more.go:74 load
              refine WL.v (by exact r_load1 (v := .int .i64 code) ty_one30 rfl (by rw [← f7]; exact st.c1 (by decide))) rfl rfl rfl ?_
              -- R18.8 169 := more.go:74 binOp
              refine WL.v (by first | exact r_neq rfl rfl (decide_eq_true (by omega)) | exact r_neq rfl rfl (decide_eq_false (by omega)) | exact r_neq rfl rfl rfl) rfl rfl rfl ?_
              -- R18.9 170 := more.go:74 pick
              refine WL.v (by first | exact r_pickT (v := .bool _) rfl rfl | exact r_pickF (v := .bool _) rfl rfl) rfl rfl rfl ?_
              -- R18.10 8 := more.go:74 assign
              refine WL.v (by first | exact r_assign (v := .bool _) rfl | exact r_assign rfl) rfl rfl rfl ?_
              refine WL.fin hK2288 (fun _ _ h => h) ?_
              refine WC.seq fun K2289 hK2289 => ?_
              -- region 19
              refine WC.region ?_
              -- R19.0 171 := more.go:75 move
              refine WL.v (by first | exact r_move (v := .bool _) rfl | exact r_move rfl) rfl rfl rfl ?_
              -- R19.1 172 := more.go:75 move
              refine WL.v (by first | exact r_move (v := .bool _) rfl | exact r_move rfl) rfl rfl rfl ?_
              -- R19.2 173 := more.go:75 move
              refine WL.no rfl rfl ?_
              -- R19.3 174 := more.go:75 fieldAddr
              refine WL.no rfl rfl ?_
              -- R19.4 175 := more.go:75 fieldAddr
              refine WL.no rfl rfl ?_
              -- R19.5 176 := more.go:75 load
              refine WL.no rfl rfl ?_
              -- R19.6 177 := more.go:75 binOp
              refine WL.no rfl rfl ?_
              -- R19.7 178 := more.go:75 binOp
              refine WL.no rfl rfl ?_
              -- R19.8 179 := more.go:75 pick
              refine WL.v (by first | exact r_pickT (v := .bool _) rfl rfl | exact r_pickF (v := .bool _) rfl rfl) rfl rfl rfl ?_
              refine WL.fin hK2289 (fun _ _ h => h) ?_
              refine WC.condF rfl rfl ?_
              refine WC.skipJ hKC (fun _ _ h => h) () (by rw [hcs]; exact st) (by repeat (first | exact sub_nil _ | refine sub_cons rfl rfl ?_))
          have hiff := ha' h14 h15
          have h21 : code = 21 := hiff.1 ⟨hm3, hnc⟩
          rcases (by omega : o.kind = 3 ∨ o.kind = 4 ∨ o.kind = 5) with hk3 | hk4 | hk5
          · skip
            refine WC.seq fun K2290 hK2290 => ?_
            -- region 6
            refine WC.region ?_
            -- R6.0 60 := more.go:62 fieldAddr
            refine WL.v (by exact r_field ty_fld36_0 rfl) rfl rfl rfl ?_
            -- R6.1 61 := more.go:62 fieldAddr
            refine WL.v (by exact r_field ty_fld28_0 rfl) rfl rfl rfl ?_
            -- R6.2 62 := more.go:62 load
            refine WL.v (by exact r_load1 (v := .int .u8 (o.kind : Nat)) ty_one25 rfl (by rw [← f0]; exact st.c1 (by decide))) rfl rfl rfl ?_
            refine WL.fin hK2290 (fun _ _ h => h) ?_
            refine WC.block ?_
            refine WC.seq fun K2291 hK2291 => ?_
            -- region 7
            refine WC.region ?_
            -- R7.0 64 := more.go:63 binOp
            refine WL.v (by first | exact r_eql rfl rfl (decide_eq_true (by omega)) | exact r_eql rfl rfl (decide_eq_false (by omega)) | exact r_eql rfl rfl rfl) rfl rfl rfl ?_
            -- R7.1 63 := more.go:63 assign
            refine WL.v (by first | exact r_assign (v := .bool _) rfl | exact r_assign rfl) rfl rfl rfl ?_
            refine WL.fin hK2291 (fun _ _ h => h) ?_
            refine WC.condF rfl rfl ?_
            refine WC.seq fun K2292 hK2292 => ?_
            refine WC.seq fun K2293 hK2293 => ?_
            -- region 14
            refine WC.region ?_
            -- R14.0 127 := more.go:72 binOp
            refine WL.v (by first | exact r_eql rfl rfl (decide_eq_true (by omega)) | exact r_eql rfl rfl (decide_eq_false (by omega)) | exact r_eql rfl rfl rfl) rfl rfl rfl ?_
            -- R14.1 126 := more.go:72 assign
            refine WL.v (by first | exact r_assign (v := .bool _) rfl | exact r_assign rfl) rfl rfl rfl ?_
            refine WL.fin hK2293 (fun _ _ h => h) ?_
            refine WC.condT rfl rfl ?_
            refine WC.skipF hK2292 (fun _ _ h => h) ?_
            refine WC.condT rfl rfl ?_
            refine WC.seq fun K2294 hK2294 => ?_
            -- region 17 (draws)
            refine WC.quietS st ty_mixed (by kernel_rfl) fun Kq hKq => ?_
            -- R17.0 130 := more.go:73 fieldAddr
            refine QL.v (fun w st => by exact r_field ty_fld36_1 rfl) rfl rfl rfl ?_
            -- R17.1 131 := more.go:73 load
            refine QL.v (fun w st => by exact r_load1 (v := .pointer (some ⟨bB, 0, none⟩)) ty_one29 rfl (by rw [← f5]; exact st.c1 (by decide))) rfl rfl rfl ?_
            -- R17.2 132 := more.go:73 nilCheck
            refine QL.v (fun w st => by exact r_nilCheck rfl) rfl rfl rfl ?_
            -- R17.3 133 := more.go:73 fieldAddr
            refine QL.v (fun w st => by exact r_field ty_fld50_0 rfl) rfl rfl rfl ?_
            -- R17.4 134 := more.go:73 load
            refine QL.v (fun w st => by exact r_load1 (v := .int .i64 (s.mode : Nat)) ty_one40 rfl (c_s (hck2 _ _).B (by decide) rfl st)) rfl rfl rfl ?_
            -- R17.5 135 := more.go:73 binOp
            refine QL.v (fun w st => by first | exact r_eql rfl rfl (decide_eq_true (by omega)) | exact r_eql rfl rfl (decide_eq_false (by omega)) | exact r_eql rfl rfl rfl) rfl rfl rfl ?_
            -- R17.6 136 := more.go:73 move
            refine QL.v (fun w st => by first | exact r_move (v := .bool _) rfl | exact r_move rfl) rfl rfl rfl ?_
            -- R17.7 137 := more.go:73 fieldAddr
            refine QL.v (fun w st => by exact r_field ty_fld36_0 rfl) rfl rfl rfl ?_
            -- R17.8 138 := more.go:73 fieldAddr
            refine QL.v (fun w st => by exact r_field ty_fld28_3 rfl) rfl rfl rfl ?_
            -- R17.9 139 := more.go:73 load
            refine QL.v (fun w st => by exact r_load1 (v := .int .i64 o.C) ty_one2 rfl (by rw [← f3]; exact st.c1 (by decide))) rfl rfl rfl ?_
            -- R17.10 140 := more.go:73 fieldAddr
            refine QL.v (fun w st => by exact r_field ty_fld36_1 rfl) rfl rfl rfl ?_
            -- R17.11 141 := more.go:73 load
            refine QL.v (fun w st => by exact r_load1 (v := .pointer (some ⟨bB, 0, none⟩)) ty_one29 rfl (by rw [← f5]; exact st.c1 (by decide))) rfl rfl rfl ?_
            -- R17.12 142 := more.go:73 move
            refine QL.v (fun w st => by exact r_move (v := .int .i64 (t : Nat)) (congrArg (Value.int .i64) hT)) rfl rfl rfl ?_
            -- R17.13 143 := more.go:73 move
            refine QL.v (fun w st => by first | exact r_move (v := .int _ _) rfl | exact r_move rfl) rfl rfl rfl ?_
            -- R17.14 144 := more.go:73 nilCheck
            refine QL.v (fun w st => by exact r_nilCheck rfl) rfl rfl rfl ?_
            -- R17.15 145 := more.go:73 fieldAddr
            refine QL.v (fun w st => by exact r_field ty_fld50_5 rfl) rfl rfl rfl ?_
            -- R17.16 146 := more.go:73 indexAddr
            refine QL.v (fun w st => by exact r_indexA (j := t) ty_ar45 rfl rfl rfl ht16) rfl rfl rfl ?_
            -- R17.17 147 := more.go:73 indexAddr
            refine QL.v (fun w st => by exact r_indexA (j := r) ty_ar44 rfl rfl rfl hr20) rfl rfl rfl ?_
            -- R17.18 148 := more.go:73 load
            refine QL.v (fun w st => by exact r_load1 (v := .int .i64 (s.claim t r : Nat)) ty_one3 rfl (c_sC (hck2 _ _).B ht16 hr20 (by omega) st)) rfl rfl rfl ?_
            -- R17.19 149 := more.go:73 fieldAddr
            refine QL.v (fun w st => by exact r_field ty_fld36_1 rfl) rfl rfl rfl ?_
            -- R17.20 150 := more.go:73 load
            refine QL.v (fun w st => by exact r_load1 (v := .pointer (some ⟨bB, 0, none⟩)) ty_one29 rfl (by rw [← f5]; exact st.c1 (by decide))) rfl rfl rfl ?_
            -- R17.21 151 := more.go:73 move
            refine QL.v (fun w st => by exact r_move (v := .int .i64 (t : Nat)) (congrArg (Value.int .i64) hT)) rfl rfl rfl ?_
            -- R17.22 152 := more.go:73 move
            refine QL.v (fun w st => by first | exact r_move (v := .int _ _) rfl | exact r_move rfl) rfl rfl rfl ?_
            -- R17.23 153 := more.go:73 nilCheck
            refine QL.v (fun w st => by exact r_nilCheck rfl) rfl rfl rfl ?_
            -- R17.24 154 := more.go:73 fieldAddr
            refine QL.v (fun w st => by exact r_field ty_fld50_4 rfl) rfl rfl rfl ?_
            -- R17.25 155 := more.go:73 indexAddr
            refine QL.v (fun w st => by exact r_indexA (j := t) ty_ar45 rfl rfl rfl ht16) rfl rfl rfl ?_
            -- R17.26 156 := more.go:73 indexAddr
            refine QL.v (fun w st => by exact r_indexA (j := r) ty_ar44 rfl rfl rfl hr20) rfl rfl rfl ?_
            -- R17.27 157 := more.go:73 load
            refine QL.v (fun w st => by exact r_load1 (v := .int .i64 (s.held t r : Nat)) ty_one3 rfl (c_sH (hck2 _ _).B ht16 hr20 (by omega) st)) rfl rfl rfl ?_
            -- R17.28 158 := more.go:73 binOp
            refine QL.v (fun w st => by exact r_sub (r := (s.claim t r : Int) - s.held t r) rfl rfl (wi64 (by omega) (by omega))) rfl rfl rfl ?_
            -- R17.29 159 := more.go:73 binOp
            refine QL.v (fun w st => by exact r_gtr rfl rfl (decide_eq_true hnc)) rfl rfl rfl ?_
            -- R17.30 160 := more.go:73 pick
            refine QL.v (fun w st => by first | exact r_pickT (v := .bool _) rfl rfl | exact r_pickF (v := .bool _) rfl rfl) rfl rfl rfl ?_
            -- R17.31 7 := more.go:73 assign
            refine QL.v (fun w st => by first | exact r_assign (v := .bool _) rfl | exact r_assign rfl) rfl rfl rfl ?_
            refine QL.wl hKq fun w st => ?_
            refine WL.fin hK2294 (fun _ _ h => h) ?_
            refine WC.seq fun K2295 hK2295 => ?_
            -- region 18
            refine WC.region ?_
            -- R18.0 161 := more.go:74 fieldAddr
            refine WL.v (by exact r_field ty_fld36_3 rfl) rfl rfl rfl ?_
            -- R18.1 162 := more.go:74 fieldAddr
            refine WL.v (by exact r_field ty_fld34_0 rfl) rfl rfl rfl ?_
            -- R18.2 163 := more.go:74 load
            refine WL.v (by exact r_load1 (v := .int .i64 code) ty_one30 rfl (by rw [← f7]; exact st.c1 (by decide))) rfl rfl rfl ?_
            -- R18.3 164 := more.go:74 binOp
            refine WL.v (by first | exact r_neq rfl rfl (decide_eq_true (by omega)) | exact r_neq rfl rfl (decide_eq_false (by omega)) | exact r_neq rfl rfl rfl) rfl rfl rfl ?_
            -- R18.4 165 := more.go:74 move
            refine WL.v (by first | exact r_move (v := .bool _) rfl | exact r_move rfl) rfl rfl rfl ?_
            -- R18.5 166 := more.go:74 fieldAddr
            refine WL.v (by exact r_field ty_fld36_3 rfl) rfl rfl rfl ?_
            -- R18.6 167 := more.go:74 fieldAddr
            refine WL.v (by exact r_field ty_fld34_0 rfl) rfl rfl rfl ?_
            -- R18.7 168 := more.go:74 load
            refine WL.v (by exact r_load1 (v := .int .i64 code) ty_one30 rfl (by rw [← f7]; exact st.c1 (by decide))) rfl rfl rfl ?_
            -- R18.8 169 := more.go:74 binOp
            refine WL.v (by first | exact r_neq rfl rfl (decide_eq_true (by omega)) | exact r_neq rfl rfl (decide_eq_false (by omega)) | exact r_neq rfl rfl rfl) rfl rfl rfl ?_
            -- R18.9 170 := more.go:74 pick
            refine WL.v (by first | exact r_pickT (v := .bool _) rfl rfl | exact r_pickF (v := .bool _) rfl rfl) rfl rfl rfl ?_
            -- R18.10 8 := more.go:74 assign
            refine WL.v (by first | exact r_assign (v := .bool _) rfl | exact r_assign rfl) rfl rfl rfl ?_
            refine WL.fin hK2295 (fun _ _ h => h) ?_
            refine WC.seq fun K2296 hK2296 => ?_
            -- region 19
            refine WC.region ?_
            -- R19.0 171 := more.go:75 move
            refine WL.v (by first | exact r_move (v := .bool _) rfl | exact r_move rfl) rfl rfl rfl ?_
            -- R19.1 172 := more.go:75 move
            refine WL.v (by first | exact r_move (v := .bool _) rfl | exact r_move rfl) rfl rfl rfl ?_
            -- R19.2 173 := more.go:75 move
            refine WL.v (by first | exact r_move (v := .bool _) rfl | exact r_move rfl) rfl rfl rfl ?_
            -- R19.3 174 := more.go:75 fieldAddr
            refine WL.v (by exact r_field ty_fld36_3 rfl) rfl rfl rfl ?_
            -- R19.4 175 := more.go:75 fieldAddr
            refine WL.v (by exact r_field ty_fld34_0 rfl) rfl rfl rfl ?_
            -- R19.5 176 := more.go:75 load
            refine WL.v (by exact r_load1 (v := .int .i64 code) ty_one30 rfl (by rw [← f7]; exact st.c1 (by decide))) rfl rfl rfl ?_
            -- R19.6 177 := more.go:75 binOp
            refine WL.v (by first | exact r_eql rfl rfl (decide_eq_true (by omega)) | exact r_eql rfl rfl (decide_eq_false (by omega)) | exact r_eql rfl rfl rfl) rfl rfl rfl ?_
            -- R19.7 178 := more.go:75 binOp
            refine WL.v (by exact r_bneq ty_bool4 rfl rfl rfl) rfl rfl rfl ?_
            -- R19.8 179 := more.go:75 pick
            refine WL.v (by first | exact r_pickT (v := .bool _) rfl rfl | exact r_pickF (v := .bool _) rfl rfl) rfl rfl rfl ?_
            refine WL.fin hK2296 (fun _ _ h => h) ?_
            refine WC.condF rfl rfl ?_
            refine WC.skipJ hKC (fun _ _ h => h) () (by rw [hcs]; exact st) (by repeat (first | exact sub_nil _ | refine sub_cons rfl rfl ?_))
          · skip
            refine WC.seq fun K2297 hK2297 => ?_
            -- region 6
            refine WC.region ?_
            -- R6.0 60 := more.go:62 fieldAddr
            refine WL.v (by exact r_field ty_fld36_0 rfl) rfl rfl rfl ?_
            -- R6.1 61 := more.go:62 fieldAddr
            refine WL.v (by exact r_field ty_fld28_0 rfl) rfl rfl rfl ?_
            -- R6.2 62 := more.go:62 load
            refine WL.v (by exact r_load1 (v := .int .u8 (o.kind : Nat)) ty_one25 rfl (by rw [← f0]; exact st.c1 (by decide))) rfl rfl rfl ?_
            refine WL.fin hK2297 (fun _ _ h => h) ?_
            refine WC.block ?_
            refine WC.seq fun K2298 hK2298 => ?_
            -- region 7
            refine WC.region ?_
            -- R7.0 64 := more.go:63 binOp
            refine WL.v (by first | exact r_eql rfl rfl (decide_eq_true (by omega)) | exact r_eql rfl rfl (decide_eq_false (by omega)) | exact r_eql rfl rfl rfl) rfl rfl rfl ?_
            -- R7.1 63 := more.go:63 assign
            refine WL.v (by first | exact r_assign (v := .bool _) rfl | exact r_assign rfl) rfl rfl rfl ?_
            refine WL.fin hK2298 (fun _ _ h => h) ?_
            refine WC.condF rfl rfl ?_
            refine WC.seq fun K2299 hK2299 => ?_
            refine WC.seq fun K2300 hK2300 => ?_
            -- region 14
            refine WC.region ?_
            -- R14.0 127 := more.go:72 binOp
            refine WL.v (by first | exact r_eql rfl rfl (decide_eq_true (by omega)) | exact r_eql rfl rfl (decide_eq_false (by omega)) | exact r_eql rfl rfl rfl) rfl rfl rfl ?_
            -- R14.1 126 := more.go:72 assign
            refine WL.v (by first | exact r_assign (v := .bool _) rfl | exact r_assign rfl) rfl rfl rfl ?_
            refine WL.fin hK2300 (fun _ _ h => h) ?_
            refine WC.condF rfl rfl ?_
            refine WC.seq fun K2301 hK2301 => ?_
            -- region 15
            refine WC.region ?_
            -- R15.0 128 := more.go:72 binOp
            refine WL.v (by first | exact r_eql rfl rfl (decide_eq_true (by omega)) | exact r_eql rfl rfl (decide_eq_false (by omega)) | exact r_eql rfl rfl rfl) rfl rfl rfl ?_
            -- R15.1 126 := more.go:72 assign
            refine WL.v (by first | exact r_assign (v := .bool _) rfl | exact r_assign rfl) rfl rfl rfl ?_
            refine WL.fin hK2301 (fun _ _ h => h) ?_
            refine WC.condT rfl rfl ?_
            refine WC.skipF hK2299 (fun _ _ h => h) ?_
            refine WC.condT rfl rfl ?_
            refine WC.seq fun K2302 hK2302 => ?_
            -- region 17 (draws)
            refine WC.quietS st ty_mixed (by kernel_rfl) fun Kq hKq => ?_
            -- R17.0 130 := more.go:73 fieldAddr
            refine QL.v (fun w st => by exact r_field ty_fld36_1 rfl) rfl rfl rfl ?_
            -- R17.1 131 := more.go:73 load
            refine QL.v (fun w st => by exact r_load1 (v := .pointer (some ⟨bB, 0, none⟩)) ty_one29 rfl (by rw [← f5]; exact st.c1 (by decide))) rfl rfl rfl ?_
            -- R17.2 132 := more.go:73 nilCheck
            refine QL.v (fun w st => by exact r_nilCheck rfl) rfl rfl rfl ?_
            -- R17.3 133 := more.go:73 fieldAddr
            refine QL.v (fun w st => by exact r_field ty_fld50_0 rfl) rfl rfl rfl ?_
            -- R17.4 134 := more.go:73 load
            refine QL.v (fun w st => by exact r_load1 (v := .int .i64 (s.mode : Nat)) ty_one40 rfl (c_s (hck2 _ _).B (by decide) rfl st)) rfl rfl rfl ?_
            -- R17.5 135 := more.go:73 binOp
            refine QL.v (fun w st => by first | exact r_eql rfl rfl (decide_eq_true (by omega)) | exact r_eql rfl rfl (decide_eq_false (by omega)) | exact r_eql rfl rfl rfl) rfl rfl rfl ?_
            -- R17.6 136 := more.go:73 move
            refine QL.v (fun w st => by first | exact r_move (v := .bool _) rfl | exact r_move rfl) rfl rfl rfl ?_
            -- R17.7 137 := more.go:73 fieldAddr
            refine QL.v (fun w st => by exact r_field ty_fld36_0 rfl) rfl rfl rfl ?_
            -- R17.8 138 := more.go:73 fieldAddr
            refine QL.v (fun w st => by exact r_field ty_fld28_3 rfl) rfl rfl rfl ?_
            -- R17.9 139 := more.go:73 load
            refine QL.v (fun w st => by exact r_load1 (v := .int .i64 o.C) ty_one2 rfl (by rw [← f3]; exact st.c1 (by decide))) rfl rfl rfl ?_
            -- R17.10 140 := more.go:73 fieldAddr
            refine QL.v (fun w st => by exact r_field ty_fld36_1 rfl) rfl rfl rfl ?_
            -- R17.11 141 := more.go:73 load
            refine QL.v (fun w st => by exact r_load1 (v := .pointer (some ⟨bB, 0, none⟩)) ty_one29 rfl (by rw [← f5]; exact st.c1 (by decide))) rfl rfl rfl ?_
            -- R17.12 142 := more.go:73 move
            refine QL.v (fun w st => by exact r_move (v := .int .i64 (t : Nat)) (congrArg (Value.int .i64) hT)) rfl rfl rfl ?_
            -- R17.13 143 := more.go:73 move
            refine QL.v (fun w st => by first | exact r_move (v := .int _ _) rfl | exact r_move rfl) rfl rfl rfl ?_
            -- R17.14 144 := more.go:73 nilCheck
            refine QL.v (fun w st => by exact r_nilCheck rfl) rfl rfl rfl ?_
            -- R17.15 145 := more.go:73 fieldAddr
            refine QL.v (fun w st => by exact r_field ty_fld50_5 rfl) rfl rfl rfl ?_
            -- R17.16 146 := more.go:73 indexAddr
            refine QL.v (fun w st => by exact r_indexA (j := t) ty_ar45 rfl rfl rfl ht16) rfl rfl rfl ?_
            -- R17.17 147 := more.go:73 indexAddr
            refine QL.v (fun w st => by exact r_indexA (j := r) ty_ar44 rfl rfl rfl hr20) rfl rfl rfl ?_
            -- R17.18 148 := more.go:73 load
            refine QL.v (fun w st => by exact r_load1 (v := .int .i64 (s.claim t r : Nat)) ty_one3 rfl (c_sC (hck2 _ _).B ht16 hr20 (by omega) st)) rfl rfl rfl ?_
            -- R17.19 149 := more.go:73 fieldAddr
            refine QL.v (fun w st => by exact r_field ty_fld36_1 rfl) rfl rfl rfl ?_
            -- R17.20 150 := more.go:73 load
            refine QL.v (fun w st => by exact r_load1 (v := .pointer (some ⟨bB, 0, none⟩)) ty_one29 rfl (by rw [← f5]; exact st.c1 (by decide))) rfl rfl rfl ?_
            -- R17.21 151 := more.go:73 move
            refine QL.v (fun w st => by exact r_move (v := .int .i64 (t : Nat)) (congrArg (Value.int .i64) hT)) rfl rfl rfl ?_
            -- R17.22 152 := more.go:73 move
            refine QL.v (fun w st => by first | exact r_move (v := .int _ _) rfl | exact r_move rfl) rfl rfl rfl ?_
            -- R17.23 153 := more.go:73 nilCheck
            refine QL.v (fun w st => by exact r_nilCheck rfl) rfl rfl rfl ?_
            -- R17.24 154 := more.go:73 fieldAddr
            refine QL.v (fun w st => by exact r_field ty_fld50_4 rfl) rfl rfl rfl ?_
            -- R17.25 155 := more.go:73 indexAddr
            refine QL.v (fun w st => by exact r_indexA (j := t) ty_ar45 rfl rfl rfl ht16) rfl rfl rfl ?_
            -- R17.26 156 := more.go:73 indexAddr
            refine QL.v (fun w st => by exact r_indexA (j := r) ty_ar44 rfl rfl rfl hr20) rfl rfl rfl ?_
            -- R17.27 157 := more.go:73 load
            refine QL.v (fun w st => by exact r_load1 (v := .int .i64 (s.held t r : Nat)) ty_one3 rfl (c_sH (hck2 _ _).B ht16 hr20 (by omega) st)) rfl rfl rfl ?_
            -- R17.28 158 := more.go:73 binOp
            refine QL.v (fun w st => by exact r_sub (r := (s.claim t r : Int) - s.held t r) rfl rfl (wi64 (by omega) (by omega))) rfl rfl rfl ?_
            -- R17.29 159 := more.go:73 binOp
            refine QL.v (fun w st => by exact r_gtr rfl rfl (decide_eq_true hnc)) rfl rfl rfl ?_
            -- R17.30 160 := more.go:73 pick
            refine QL.v (fun w st => by first | exact r_pickT (v := .bool _) rfl rfl | exact r_pickF (v := .bool _) rfl rfl) rfl rfl rfl ?_
            -- R17.31 7 := more.go:73 assign
            refine QL.v (fun w st => by first | exact r_assign (v := .bool _) rfl | exact r_assign rfl) rfl rfl rfl ?_
            refine QL.wl hKq fun w st => ?_
            refine WL.fin hK2302 (fun _ _ h => h) ?_
            refine WC.seq fun K2303 hK2303 => ?_
            -- region 18
            refine WC.region ?_
            -- R18.0 161 := more.go:74 fieldAddr
            refine WL.v (by exact r_field ty_fld36_3 rfl) rfl rfl rfl ?_
            -- R18.1 162 := more.go:74 fieldAddr
            refine WL.v (by exact r_field ty_fld34_0 rfl) rfl rfl rfl ?_
            -- R18.2 163 := more.go:74 load
            refine WL.v (by exact r_load1 (v := .int .i64 code) ty_one30 rfl (by rw [← f7]; exact st.c1 (by decide))) rfl rfl rfl ?_
            -- R18.3 164 := more.go:74 binOp
            refine WL.v (by first | exact r_neq rfl rfl (decide_eq_true (by omega)) | exact r_neq rfl rfl (decide_eq_false (by omega)) | exact r_neq rfl rfl rfl) rfl rfl rfl ?_
            -- R18.4 165 := more.go:74 move
            refine WL.v (by first | exact r_move (v := .bool _) rfl | exact r_move rfl) rfl rfl rfl ?_
            -- R18.5 166 := more.go:74 fieldAddr
            refine WL.v (by exact r_field ty_fld36_3 rfl) rfl rfl rfl ?_
            -- R18.6 167 := more.go:74 fieldAddr
            refine WL.v (by exact r_field ty_fld34_0 rfl) rfl rfl rfl ?_
            -- R18.7 168 := more.go:74 load
            refine WL.v (by exact r_load1 (v := .int .i64 code) ty_one30 rfl (by rw [← f7]; exact st.c1 (by decide))) rfl rfl rfl ?_
            -- R18.8 169 := more.go:74 binOp
            refine WL.v (by first | exact r_neq rfl rfl (decide_eq_true (by omega)) | exact r_neq rfl rfl (decide_eq_false (by omega)) | exact r_neq rfl rfl rfl) rfl rfl rfl ?_
            -- R18.9 170 := more.go:74 pick
            refine WL.v (by first | exact r_pickT (v := .bool _) rfl rfl | exact r_pickF (v := .bool _) rfl rfl) rfl rfl rfl ?_
            -- R18.10 8 := more.go:74 assign
            refine WL.v (by first | exact r_assign (v := .bool _) rfl | exact r_assign rfl) rfl rfl rfl ?_
            refine WL.fin hK2303 (fun _ _ h => h) ?_
            refine WC.seq fun K2304 hK2304 => ?_
            -- region 19
            refine WC.region ?_
            -- R19.0 171 := more.go:75 move
            refine WL.v (by first | exact r_move (v := .bool _) rfl | exact r_move rfl) rfl rfl rfl ?_
            -- R19.1 172 := more.go:75 move
            refine WL.v (by first | exact r_move (v := .bool _) rfl | exact r_move rfl) rfl rfl rfl ?_
            -- R19.2 173 := more.go:75 move
            refine WL.v (by first | exact r_move (v := .bool _) rfl | exact r_move rfl) rfl rfl rfl ?_
            -- R19.3 174 := more.go:75 fieldAddr
            refine WL.v (by exact r_field ty_fld36_3 rfl) rfl rfl rfl ?_
            -- R19.4 175 := more.go:75 fieldAddr
            refine WL.v (by exact r_field ty_fld34_0 rfl) rfl rfl rfl ?_
            -- R19.5 176 := more.go:75 load
            refine WL.v (by exact r_load1 (v := .int .i64 code) ty_one30 rfl (by rw [← f7]; exact st.c1 (by decide))) rfl rfl rfl ?_
            -- R19.6 177 := more.go:75 binOp
            refine WL.v (by first | exact r_eql rfl rfl (decide_eq_true (by omega)) | exact r_eql rfl rfl (decide_eq_false (by omega)) | exact r_eql rfl rfl rfl) rfl rfl rfl ?_
            -- R19.7 178 := more.go:75 binOp
            refine WL.v (by exact r_bneq ty_bool4 rfl rfl rfl) rfl rfl rfl ?_
            -- R19.8 179 := more.go:75 pick
            refine WL.v (by first | exact r_pickT (v := .bool _) rfl rfl | exact r_pickF (v := .bool _) rfl rfl) rfl rfl rfl ?_
            refine WL.fin hK2304 (fun _ _ h => h) ?_
            refine WC.condF rfl rfl ?_
            refine WC.skipJ hKC (fun _ _ h => h) () (by rw [hcs]; exact st) (by repeat (first | exact sub_nil _ | refine sub_cons rfl rfl ?_))
          · skip
            refine WC.seq fun K2305 hK2305 => ?_
            -- region 6
            refine WC.region ?_
            -- R6.0 60 := more.go:62 fieldAddr
            refine WL.v (by exact r_field ty_fld36_0 rfl) rfl rfl rfl ?_
            -- R6.1 61 := more.go:62 fieldAddr
            refine WL.v (by exact r_field ty_fld28_0 rfl) rfl rfl rfl ?_
            -- R6.2 62 := more.go:62 load
            refine WL.v (by exact r_load1 (v := .int .u8 (o.kind : Nat)) ty_one25 rfl (by rw [← f0]; exact st.c1 (by decide))) rfl rfl rfl ?_
            refine WL.fin hK2305 (fun _ _ h => h) ?_
            refine WC.block ?_
            refine WC.seq fun K2306 hK2306 => ?_
            -- region 7
            refine WC.region ?_
            -- R7.0 64 := more.go:63 binOp
            refine WL.v (by first | exact r_eql rfl rfl (decide_eq_true (by omega)) | exact r_eql rfl rfl (decide_eq_false (by omega)) | exact r_eql rfl rfl rfl) rfl rfl rfl ?_
            -- R7.1 63 := more.go:63 assign
            refine WL.v (by first | exact r_assign (v := .bool _) rfl | exact r_assign rfl) rfl rfl rfl ?_
            refine WL.fin hK2306 (fun _ _ h => h) ?_
            refine WC.condF rfl rfl ?_
            refine WC.seq fun K2307 hK2307 => ?_
            refine WC.seq fun K2308 hK2308 => ?_
            -- region 14
            refine WC.region ?_
            -- R14.0 127 := more.go:72 binOp
            refine WL.v (by first | exact r_eql rfl rfl (decide_eq_true (by omega)) | exact r_eql rfl rfl (decide_eq_false (by omega)) | exact r_eql rfl rfl rfl) rfl rfl rfl ?_
            -- R14.1 126 := more.go:72 assign
            refine WL.v (by first | exact r_assign (v := .bool _) rfl | exact r_assign rfl) rfl rfl rfl ?_
            refine WL.fin hK2308 (fun _ _ h => h) ?_
            refine WC.condF rfl rfl ?_
            refine WC.seq fun K2309 hK2309 => ?_
            -- region 15
            refine WC.region ?_
            -- R15.0 128 := more.go:72 binOp
            refine WL.v (by first | exact r_eql rfl rfl (decide_eq_true (by omega)) | exact r_eql rfl rfl (decide_eq_false (by omega)) | exact r_eql rfl rfl rfl) rfl rfl rfl ?_
            -- R15.1 126 := more.go:72 assign
            refine WL.v (by first | exact r_assign (v := .bool _) rfl | exact r_assign rfl) rfl rfl rfl ?_
            refine WL.fin hK2309 (fun _ _ h => h) ?_
            refine WC.condF rfl rfl ?_
            -- region 16
            refine WC.region ?_
            -- R16.0 129 := more.go:72 binOp
            refine WL.v (by first | exact r_eql rfl rfl (decide_eq_true (by omega)) | exact r_eql rfl rfl (decide_eq_false (by omega)) | exact r_eql rfl rfl rfl) rfl rfl rfl ?_
            -- R16.1 126 := more.go:72 assign
            refine WL.v (by first | exact r_assign (v := .bool _) rfl | exact r_assign rfl) rfl rfl rfl ?_
            refine WL.fin hK2307 (fun _ _ h => h) ?_
            refine WC.condT rfl rfl ?_
            refine WC.seq fun K2310 hK2310 => ?_
            -- region 17 (draws)
            refine WC.quietS st ty_mixed (by kernel_rfl) fun Kq hKq => ?_
            -- R17.0 130 := more.go:73 fieldAddr
            refine QL.v (fun w st => by exact r_field ty_fld36_1 rfl) rfl rfl rfl ?_
            -- R17.1 131 := more.go:73 load
            refine QL.v (fun w st => by exact r_load1 (v := .pointer (some ⟨bB, 0, none⟩)) ty_one29 rfl (by rw [← f5]; exact st.c1 (by decide))) rfl rfl rfl ?_
            -- R17.2 132 := more.go:73 nilCheck
            refine QL.v (fun w st => by exact r_nilCheck rfl) rfl rfl rfl ?_
            -- R17.3 133 := more.go:73 fieldAddr
            refine QL.v (fun w st => by exact r_field ty_fld50_0 rfl) rfl rfl rfl ?_
            -- R17.4 134 := more.go:73 load
            refine QL.v (fun w st => by exact r_load1 (v := .int .i64 (s.mode : Nat)) ty_one40 rfl (c_s (hck2 _ _).B (by decide) rfl st)) rfl rfl rfl ?_
            -- R17.5 135 := more.go:73 binOp
            refine QL.v (fun w st => by first | exact r_eql rfl rfl (decide_eq_true (by omega)) | exact r_eql rfl rfl (decide_eq_false (by omega)) | exact r_eql rfl rfl rfl) rfl rfl rfl ?_
            -- R17.6 136 := more.go:73 move
            refine QL.v (fun w st => by first | exact r_move (v := .bool _) rfl | exact r_move rfl) rfl rfl rfl ?_
            -- R17.7 137 := more.go:73 fieldAddr
            refine QL.v (fun w st => by exact r_field ty_fld36_0 rfl) rfl rfl rfl ?_
            -- R17.8 138 := more.go:73 fieldAddr
            refine QL.v (fun w st => by exact r_field ty_fld28_3 rfl) rfl rfl rfl ?_
            -- R17.9 139 := more.go:73 load
            refine QL.v (fun w st => by exact r_load1 (v := .int .i64 o.C) ty_one2 rfl (by rw [← f3]; exact st.c1 (by decide))) rfl rfl rfl ?_
            -- R17.10 140 := more.go:73 fieldAddr
            refine QL.v (fun w st => by exact r_field ty_fld36_1 rfl) rfl rfl rfl ?_
            -- R17.11 141 := more.go:73 load
            refine QL.v (fun w st => by exact r_load1 (v := .pointer (some ⟨bB, 0, none⟩)) ty_one29 rfl (by rw [← f5]; exact st.c1 (by decide))) rfl rfl rfl ?_
            -- R17.12 142 := more.go:73 move
            refine QL.v (fun w st => by exact r_move (v := .int .i64 (t : Nat)) (congrArg (Value.int .i64) hT)) rfl rfl rfl ?_
            -- R17.13 143 := more.go:73 move
            refine QL.v (fun w st => by first | exact r_move (v := .int _ _) rfl | exact r_move rfl) rfl rfl rfl ?_
            -- R17.14 144 := more.go:73 nilCheck
            refine QL.v (fun w st => by exact r_nilCheck rfl) rfl rfl rfl ?_
            -- R17.15 145 := more.go:73 fieldAddr
            refine QL.v (fun w st => by exact r_field ty_fld50_5 rfl) rfl rfl rfl ?_
            -- R17.16 146 := more.go:73 indexAddr
            refine QL.v (fun w st => by exact r_indexA (j := t) ty_ar45 rfl rfl rfl ht16) rfl rfl rfl ?_
            -- R17.17 147 := more.go:73 indexAddr
            refine QL.v (fun w st => by exact r_indexA (j := r) ty_ar44 rfl rfl rfl hr20) rfl rfl rfl ?_
            -- R17.18 148 := more.go:73 load
            refine QL.v (fun w st => by exact r_load1 (v := .int .i64 (s.claim t r : Nat)) ty_one3 rfl (c_sC (hck2 _ _).B ht16 hr20 (by omega) st)) rfl rfl rfl ?_
            -- R17.19 149 := more.go:73 fieldAddr
            refine QL.v (fun w st => by exact r_field ty_fld36_1 rfl) rfl rfl rfl ?_
            -- R17.20 150 := more.go:73 load
            refine QL.v (fun w st => by exact r_load1 (v := .pointer (some ⟨bB, 0, none⟩)) ty_one29 rfl (by rw [← f5]; exact st.c1 (by decide))) rfl rfl rfl ?_
            -- R17.21 151 := more.go:73 move
            refine QL.v (fun w st => by exact r_move (v := .int .i64 (t : Nat)) (congrArg (Value.int .i64) hT)) rfl rfl rfl ?_
            -- R17.22 152 := more.go:73 move
            refine QL.v (fun w st => by first | exact r_move (v := .int _ _) rfl | exact r_move rfl) rfl rfl rfl ?_
            -- R17.23 153 := more.go:73 nilCheck
            refine QL.v (fun w st => by exact r_nilCheck rfl) rfl rfl rfl ?_
            -- R17.24 154 := more.go:73 fieldAddr
            refine QL.v (fun w st => by exact r_field ty_fld50_4 rfl) rfl rfl rfl ?_
            -- R17.25 155 := more.go:73 indexAddr
            refine QL.v (fun w st => by exact r_indexA (j := t) ty_ar45 rfl rfl rfl ht16) rfl rfl rfl ?_
            -- R17.26 156 := more.go:73 indexAddr
            refine QL.v (fun w st => by exact r_indexA (j := r) ty_ar44 rfl rfl rfl hr20) rfl rfl rfl ?_
            -- R17.27 157 := more.go:73 load
            refine QL.v (fun w st => by exact r_load1 (v := .int .i64 (s.held t r : Nat)) ty_one3 rfl (c_sH (hck2 _ _).B ht16 hr20 (by omega) st)) rfl rfl rfl ?_
            -- R17.28 158 := more.go:73 binOp
            refine QL.v (fun w st => by exact r_sub (r := (s.claim t r : Int) - s.held t r) rfl rfl (wi64 (by omega) (by omega))) rfl rfl rfl ?_
            -- R17.29 159 := more.go:73 binOp
            refine QL.v (fun w st => by exact r_gtr rfl rfl (decide_eq_true hnc)) rfl rfl rfl ?_
            -- R17.30 160 := more.go:73 pick
            refine QL.v (fun w st => by first | exact r_pickT (v := .bool _) rfl rfl | exact r_pickF (v := .bool _) rfl rfl) rfl rfl rfl ?_
            -- R17.31 7 := more.go:73 assign
            refine QL.v (fun w st => by first | exact r_assign (v := .bool _) rfl | exact r_assign rfl) rfl rfl rfl ?_
            refine QL.wl hKq fun w st => ?_
            refine WL.fin hK2310 (fun _ _ h => h) ?_
            refine WC.seq fun K2311 hK2311 => ?_
            -- region 18
            refine WC.region ?_
            -- R18.0 161 := more.go:74 fieldAddr
            refine WL.v (by exact r_field ty_fld36_3 rfl) rfl rfl rfl ?_
            -- R18.1 162 := more.go:74 fieldAddr
            refine WL.v (by exact r_field ty_fld34_0 rfl) rfl rfl rfl ?_
            -- R18.2 163 := more.go:74 load
            refine WL.v (by exact r_load1 (v := .int .i64 code) ty_one30 rfl (by rw [← f7]; exact st.c1 (by decide))) rfl rfl rfl ?_
            -- R18.3 164 := more.go:74 binOp
            refine WL.v (by first | exact r_neq rfl rfl (decide_eq_true (by omega)) | exact r_neq rfl rfl (decide_eq_false (by omega)) | exact r_neq rfl rfl rfl) rfl rfl rfl ?_
            -- R18.4 165 := more.go:74 move
            refine WL.v (by first | exact r_move (v := .bool _) rfl | exact r_move rfl) rfl rfl rfl ?_
            -- R18.5 166 := more.go:74 fieldAddr
            refine WL.v (by exact r_field ty_fld36_3 rfl) rfl rfl rfl ?_
            -- R18.6 167 := more.go:74 fieldAddr
            refine WL.v (by exact r_field ty_fld34_0 rfl) rfl rfl rfl ?_
            -- R18.7 168 := more.go:74 load
            refine WL.v (by exact r_load1 (v := .int .i64 code) ty_one30 rfl (by rw [← f7]; exact st.c1 (by decide))) rfl rfl rfl ?_
            -- R18.8 169 := more.go:74 binOp
            refine WL.v (by first | exact r_neq rfl rfl (decide_eq_true (by omega)) | exact r_neq rfl rfl (decide_eq_false (by omega)) | exact r_neq rfl rfl rfl) rfl rfl rfl ?_
            -- R18.9 170 := more.go:74 pick
            refine WL.v (by first | exact r_pickT (v := .bool _) rfl rfl | exact r_pickF (v := .bool _) rfl rfl) rfl rfl rfl ?_
            -- R18.10 8 := more.go:74 assign
            refine WL.v (by first | exact r_assign (v := .bool _) rfl | exact r_assign rfl) rfl rfl rfl ?_
            refine WL.fin hK2311 (fun _ _ h => h) ?_
            refine WC.seq fun K2312 hK2312 => ?_
            -- region 19
            refine WC.region ?_
            -- R19.0 171 := more.go:75 move
            refine WL.v (by first | exact r_move (v := .bool _) rfl | exact r_move rfl) rfl rfl rfl ?_
            -- R19.1 172 := more.go:75 move
            refine WL.v (by first | exact r_move (v := .bool _) rfl | exact r_move rfl) rfl rfl rfl ?_
            -- R19.2 173 := more.go:75 move
            refine WL.v (by first | exact r_move (v := .bool _) rfl | exact r_move rfl) rfl rfl rfl ?_
            -- R19.3 174 := more.go:75 fieldAddr
            refine WL.v (by exact r_field ty_fld36_3 rfl) rfl rfl rfl ?_
            -- R19.4 175 := more.go:75 fieldAddr
            refine WL.v (by exact r_field ty_fld34_0 rfl) rfl rfl rfl ?_
            -- R19.5 176 := more.go:75 load
            refine WL.v (by exact r_load1 (v := .int .i64 code) ty_one30 rfl (by rw [← f7]; exact st.c1 (by decide))) rfl rfl rfl ?_
            -- R19.6 177 := more.go:75 binOp
            refine WL.v (by first | exact r_eql rfl rfl (decide_eq_true (by omega)) | exact r_eql rfl rfl (decide_eq_false (by omega)) | exact r_eql rfl rfl rfl) rfl rfl rfl ?_
            -- R19.7 178 := more.go:75 binOp
            refine WL.v (by exact r_bneq ty_bool4 rfl rfl rfl) rfl rfl rfl ?_
            -- R19.8 179 := more.go:75 pick
            refine WL.v (by first | exact r_pickT (v := .bool _) rfl rfl | exact r_pickF (v := .bool _) rfl rfl) rfl rfl rfl ?_
            refine WL.fin hK2312 (fun _ _ h => h) ?_
            refine WC.condF rfl rfl ?_
            refine WC.skipJ hKC (fun _ _ h => h) () (by rw [hcs]; exact st) (by repeat (first | exact sub_nil _ | refine sub_cons rfl rfl ?_))
      · skip
        by_cases h14 : code = 14
        · skip
          rcases (by omega : o.kind = 3 ∨ o.kind = 4 ∨ o.kind = 5) with hk3 | hk4 | hk5
          · skip
            refine WC.seq fun K2313 hK2313 => ?_
            -- region 6
            refine WC.region ?_
            -- R6.0 60 := more.go:62 fieldAddr
            refine WL.v (by exact r_field ty_fld36_0 rfl) rfl rfl rfl ?_
            -- R6.1 61 := more.go:62 fieldAddr
            refine WL.v (by exact r_field ty_fld28_0 rfl) rfl rfl rfl ?_
            -- R6.2 62 := more.go:62 load
            refine WL.v (by exact r_load1 (v := .int .u8 (o.kind : Nat)) ty_one25 rfl (by rw [← f0]; exact st.c1 (by decide))) rfl rfl rfl ?_
            refine WL.fin hK2313 (fun _ _ h => h) ?_
            refine WC.block ?_
            refine WC.seq fun K2314 hK2314 => ?_
            -- region 7
            refine WC.region ?_
            -- R7.0 64 := more.go:63 binOp
            refine WL.v (by first | exact r_eql rfl rfl (decide_eq_true (by omega)) | exact r_eql rfl rfl (decide_eq_false (by omega)) | exact r_eql rfl rfl rfl) rfl rfl rfl ?_
            -- R7.1 63 := more.go:63 assign
            refine WL.v (by first | exact r_assign (v := .bool _) rfl | exact r_assign rfl) rfl rfl rfl ?_
            refine WL.fin hK2314 (fun _ _ h => h) ?_
            refine WC.condF rfl rfl ?_
            refine WC.seq fun K2315 hK2315 => ?_
            refine WC.seq fun K2316 hK2316 => ?_
            -- region 14
            refine WC.region ?_
            -- R14.0 127 := more.go:72 binOp
            refine WL.v (by first | exact r_eql rfl rfl (decide_eq_true (by omega)) | exact r_eql rfl rfl (decide_eq_false (by omega)) | exact r_eql rfl rfl rfl) rfl rfl rfl ?_
            -- R14.1 126 := more.go:72 assign
            refine WL.v (by first | exact r_assign (v := .bool _) rfl | exact r_assign rfl) rfl rfl rfl ?_
            refine WL.fin hK2316 (fun _ _ h => h) ?_
            refine WC.condT rfl rfl ?_
            refine WC.skipF hK2315 (fun _ _ h => h) ?_
            refine WC.condT rfl rfl ?_
            refine WC.seq fun K2317 hK2317 => ?_
            -- region 17 (draws)
            refine WC.quietS st ty_mixed (by kernel_rfl) fun Kq hKq => ?_
            -- R17.0 130 := more.go:73 fieldAddr
            refine QL.v (fun w st => by exact r_field ty_fld36_1 rfl) rfl rfl rfl ?_
            -- R17.1 131 := more.go:73 load
            refine QL.v (fun w st => by exact r_load1 (v := .pointer (some ⟨bB, 0, none⟩)) ty_one29 rfl (by rw [← f5]; exact st.c1 (by decide))) rfl rfl rfl ?_
            -- R17.2 132 := more.go:73 nilCheck
            refine QL.v (fun w st => by exact r_nilCheck rfl) rfl rfl rfl ?_
            -- R17.3 133 := more.go:73 fieldAddr
            refine QL.v (fun w st => by exact r_field ty_fld50_0 rfl) rfl rfl rfl ?_
            -- R17.4 134 := more.go:73 load
            refine QL.v (fun w st => by exact r_load1 (v := .int .i64 (s.mode : Nat)) ty_one40 rfl (c_s (hck2 _ _).B (by decide) rfl st)) rfl rfl rfl ?_
            -- R17.5 135 := more.go:73 binOp
            refine QL.v (fun w st => by first | exact r_eql rfl rfl (decide_eq_true (by omega)) | exact r_eql rfl rfl (decide_eq_false (by omega)) | exact r_eql rfl rfl rfl) rfl rfl rfl ?_
            -- R17.6 136 := more.go:73 move
            refine QL.v (fun w st => by first | exact r_move (v := .bool _) rfl | exact r_move rfl) rfl rfl rfl ?_
            -- R17.7 137 := more.go:73 fieldAddr
            refine QL.no rfl rfl ?_
            -- R17.8 138 := more.go:73 fieldAddr
            refine QL.no rfl rfl ?_
            -- R17.9 139 := more.go:73 load
            refine QL.no rfl rfl ?_
            -- R17.10 140 := more.go:73 fieldAddr
            refine QL.no rfl rfl ?_
            -- R17.11 141 := more.go:73 load
            refine QL.no rfl rfl ?_
            -- R17.12 142 := more.go:73 move
            refine QL.no rfl rfl ?_
            -- R17.13 143 := more.go:73 move
            refine QL.no rfl rfl ?_
            -- R17.14 144 := more.go:73 nilCheck
            refine QL.no rfl rfl ?_
            -- R17.15 145 := more.go:73 fieldAddr
            refine QL.no rfl rfl ?_
            -- R17.16 146 := more.go:73 indexAddr
            refine QL.no rfl rfl ?_
            -- R17.17 147 := more.go:73 indexAddr
            refine QL.no rfl rfl ?_
            -- R17.18 148 := more.go:73 load
            refine QL.no rfl rfl ?_
            -- R17.19 149 := more.go:73 fieldAddr
            refine QL.no rfl rfl ?_
            -- R17.20 150 := more.go:73 load
            refine QL.no rfl rfl ?_
            -- R17.21 151 := more.go:73 move
            refine QL.no rfl rfl ?_
            -- R17.22 152 := more.go:73 move
            refine QL.no rfl rfl ?_
            -- R17.23 153 := more.go:73 nilCheck
            refine QL.no rfl rfl ?_
            -- R17.24 154 := more.go:73 fieldAddr
            refine QL.no rfl rfl ?_
            -- R17.25 155 := more.go:73 indexAddr
            refine QL.no rfl rfl ?_
            -- R17.26 156 := more.go:73 indexAddr
            refine QL.no rfl rfl ?_
            -- R17.27 157 := more.go:73 load
            refine QL.no rfl rfl ?_
            -- R17.28 158 := more.go:73 binOp
            refine QL.no rfl rfl ?_
            -- R17.29 159 := more.go:73 binOp
            refine QL.no rfl rfl ?_
            -- R17.30 160 := more.go:73 pick
            refine QL.v (fun w st => by first | exact r_pickT (v := .bool _) rfl rfl | exact r_pickF (v := .bool _) rfl rfl) rfl rfl rfl ?_
            -- R17.31 7 := more.go:73 assign
            refine QL.v (fun w st => by first | exact r_assign (v := .bool _) rfl | exact r_assign rfl) rfl rfl rfl ?_
            refine QL.wl hKq fun w st => ?_
            refine WL.fin hK2317 (fun _ _ h => h) ?_
            refine WC.seq fun K2318 hK2318 => ?_
            -- region 18
            refine WC.region ?_
            -- R18.0 161 := more.go:74 fieldAddr
            refine WL.v (by exact r_field ty_fld36_3 rfl) rfl rfl rfl ?_
            -- R18.1 162 := more.go:74 fieldAddr
            refine WL.v (by exact r_field ty_fld34_0 rfl) rfl rfl rfl ?_
            -- R18.2 163 := more.go:74 load
            refine WL.v (by exact r_load1 (v := .int .i64 code) ty_one30 rfl (by rw [← f7]; exact st.c1 (by decide))) rfl rfl rfl ?_
            -- R18.3 164 := more.go:74 binOp
            refine WL.v (by first | exact r_neq rfl rfl (decide_eq_true (by omega)) | exact r_neq rfl rfl (decide_eq_false (by omega)) | exact r_neq rfl rfl rfl) rfl rfl rfl ?_
            -- R18.4 165 := more.go:74 move
            refine WL.v (by first | exact r_move (v := .bool _) rfl | exact r_move rfl) rfl rfl rfl ?_
            -- R18.5 166 := more.go:74 fieldAddr
            refine WL.no rfl rfl ?_
            -- R18.6 167 := more.go:74 fieldAddr
            refine WL.no rfl rfl ?_
            -- R18.7 168 := more.go:74 load
            refine WL.no rfl rfl ?_
            -- R18.8 169 := more.go:74 binOp
            refine WL.no rfl rfl ?_
            -- R18.9 170 := more.go:74 pick
            refine WL.v (by first | exact r_pickT (v := .bool _) rfl rfl | exact r_pickF (v := .bool _) rfl rfl) rfl rfl rfl ?_
            -- R18.10 8 := more.go:74 assign
            refine WL.v (by first | exact r_assign (v := .bool _) rfl | exact r_assign rfl) rfl rfl rfl ?_
            refine WL.fin hK2318 (fun _ _ h => h) ?_
            refine WC.seq fun K2319 hK2319 => ?_
            -- region 19
            refine WC.region ?_
            -- R19.0 171 := more.go:75 move
            refine WL.v (by first | exact r_move (v := .bool _) rfl | exact r_move rfl) rfl rfl rfl ?_
            -- R19.1 172 := more.go:75 move
            refine WL.v (by first | exact r_move (v := .bool _) rfl | exact r_move rfl) rfl rfl rfl ?_
            -- R19.2 173 := more.go:75 move
            refine WL.no rfl rfl ?_
            -- R19.3 174 := more.go:75 fieldAddr
            refine WL.no rfl rfl ?_
            -- R19.4 175 := more.go:75 fieldAddr
            refine WL.no rfl rfl ?_
            -- R19.5 176 := more.go:75 load
            refine WL.no rfl rfl ?_
            -- R19.6 177 := more.go:75 binOp
            refine WL.no rfl rfl ?_
            -- R19.7 178 := more.go:75 binOp
            refine WL.no rfl rfl ?_
            -- R19.8 179 := more.go:75 pick
            refine WL.v (by first | exact r_pickT (v := .bool _) rfl rfl | exact r_pickF (v := .bool _) rfl rfl) rfl rfl rfl ?_
            refine WL.fin hK2319 (fun _ _ h => h) ?_
            refine WC.condF rfl rfl ?_
            refine WC.skipJ hKC (fun _ _ h => h) () (by rw [hcs]; exact st) (by repeat (first | exact sub_nil _ | refine sub_cons rfl rfl ?_))
          · skip
            refine WC.seq fun K2320 hK2320 => ?_
            -- region 6
            refine WC.region ?_
            -- R6.0 60 := more.go:62 fieldAddr
            refine WL.v (by exact r_field ty_fld36_0 rfl) rfl rfl rfl ?_
            -- R6.1 61 := more.go:62 fieldAddr
            refine WL.v (by exact r_field ty_fld28_0 rfl) rfl rfl rfl ?_
            -- R6.2 62 := more.go:62 load
            refine WL.v (by exact r_load1 (v := .int .u8 (o.kind : Nat)) ty_one25 rfl (by rw [← f0]; exact st.c1 (by decide))) rfl rfl rfl ?_
            refine WL.fin hK2320 (fun _ _ h => h) ?_
            refine WC.block ?_
            refine WC.seq fun K2321 hK2321 => ?_
            -- region 7
            refine WC.region ?_
            -- R7.0 64 := more.go:63 binOp
            refine WL.v (by first | exact r_eql rfl rfl (decide_eq_true (by omega)) | exact r_eql rfl rfl (decide_eq_false (by omega)) | exact r_eql rfl rfl rfl) rfl rfl rfl ?_
            -- R7.1 63 := more.go:63 assign
            refine WL.v (by first | exact r_assign (v := .bool _) rfl | exact r_assign rfl) rfl rfl rfl ?_
            refine WL.fin hK2321 (fun _ _ h => h) ?_
            refine WC.condF rfl rfl ?_
            refine WC.seq fun K2322 hK2322 => ?_
            refine WC.seq fun K2323 hK2323 => ?_
            -- region 14
            refine WC.region ?_
            -- R14.0 127 := more.go:72 binOp
            refine WL.v (by first | exact r_eql rfl rfl (decide_eq_true (by omega)) | exact r_eql rfl rfl (decide_eq_false (by omega)) | exact r_eql rfl rfl rfl) rfl rfl rfl ?_
            -- R14.1 126 := more.go:72 assign
            refine WL.v (by first | exact r_assign (v := .bool _) rfl | exact r_assign rfl) rfl rfl rfl ?_
            refine WL.fin hK2323 (fun _ _ h => h) ?_
            refine WC.condF rfl rfl ?_
            refine WC.seq fun K2324 hK2324 => ?_
            -- region 15
            refine WC.region ?_
            -- R15.0 128 := more.go:72 binOp
            refine WL.v (by first | exact r_eql rfl rfl (decide_eq_true (by omega)) | exact r_eql rfl rfl (decide_eq_false (by omega)) | exact r_eql rfl rfl rfl) rfl rfl rfl ?_
            -- R15.1 126 := more.go:72 assign
            refine WL.v (by first | exact r_assign (v := .bool _) rfl | exact r_assign rfl) rfl rfl rfl ?_
            refine WL.fin hK2324 (fun _ _ h => h) ?_
            refine WC.condT rfl rfl ?_
            refine WC.skipF hK2322 (fun _ _ h => h) ?_
            refine WC.condT rfl rfl ?_
            refine WC.seq fun K2325 hK2325 => ?_
            -- region 17 (draws)
            refine WC.quietS st ty_mixed (by kernel_rfl) fun Kq hKq => ?_
            -- R17.0 130 := more.go:73 fieldAddr
            refine QL.v (fun w st => by exact r_field ty_fld36_1 rfl) rfl rfl rfl ?_
            -- R17.1 131 := more.go:73 load
            refine QL.v (fun w st => by exact r_load1 (v := .pointer (some ⟨bB, 0, none⟩)) ty_one29 rfl (by rw [← f5]; exact st.c1 (by decide))) rfl rfl rfl ?_
            -- R17.2 132 := more.go:73 nilCheck
            refine QL.v (fun w st => by exact r_nilCheck rfl) rfl rfl rfl ?_
            -- R17.3 133 := more.go:73 fieldAddr
            refine QL.v (fun w st => by exact r_field ty_fld50_0 rfl) rfl rfl rfl ?_
            -- R17.4 134 := more.go:73 load
            refine QL.v (fun w st => by exact r_load1 (v := .int .i64 (s.mode : Nat)) ty_one40 rfl (c_s (hck2 _ _).B (by decide) rfl st)) rfl rfl rfl ?_
            -- R17.5 135 := more.go:73 binOp
            refine QL.v (fun w st => by first | exact r_eql rfl rfl (decide_eq_true (by omega)) | exact r_eql rfl rfl (decide_eq_false (by omega)) | exact r_eql rfl rfl rfl) rfl rfl rfl ?_
            -- R17.6 136 := more.go:73 move
            refine QL.v (fun w st => by first | exact r_move (v := .bool _) rfl | exact r_move rfl) rfl rfl rfl ?_
            -- R17.7 137 := more.go:73 fieldAddr
            refine QL.no rfl rfl ?_
            -- R17.8 138 := more.go:73 fieldAddr
            refine QL.no rfl rfl ?_
            -- R17.9 139 := more.go:73 load
            refine QL.no rfl rfl ?_
            -- R17.10 140 := more.go:73 fieldAddr
            refine QL.no rfl rfl ?_
            -- R17.11 141 := more.go:73 load
            refine QL.no rfl rfl ?_
            -- R17.12 142 := more.go:73 move
            refine QL.no rfl rfl ?_
            -- R17.13 143 := more.go:73 move
            refine QL.no rfl rfl ?_
            -- R17.14 144 := more.go:73 nilCheck
            refine QL.no rfl rfl ?_
            -- R17.15 145 := more.go:73 fieldAddr
            refine QL.no rfl rfl ?_
            -- R17.16 146 := more.go:73 indexAddr
            refine QL.no rfl rfl ?_
            -- R17.17 147 := more.go:73 indexAddr
            refine QL.no rfl rfl ?_
            -- R17.18 148 := more.go:73 load
            refine QL.no rfl rfl ?_
            -- R17.19 149 := more.go:73 fieldAddr
            refine QL.no rfl rfl ?_
            -- R17.20 150 := more.go:73 load
            refine QL.no rfl rfl ?_
            -- R17.21 151 := more.go:73 move
            refine QL.no rfl rfl ?_
            -- R17.22 152 := more.go:73 move
            refine QL.no rfl rfl ?_
            -- R17.23 153 := more.go:73 nilCheck
            refine QL.no rfl rfl ?_
            -- R17.24 154 := more.go:73 fieldAddr
            refine QL.no rfl rfl ?_
            -- R17.25 155 := more.go:73 indexAddr
            refine QL.no rfl rfl ?_
            -- R17.26 156 := more.go:73 indexAddr
            refine QL.no rfl rfl ?_
            -- R17.27 157 := more.go:73 load
            refine QL.no rfl rfl ?_
            -- R17.28 158 := more.go:73 binOp
            refine QL.no rfl rfl ?_
            -- R17.29 159 := more.go:73 binOp
            refine QL.no rfl rfl ?_
            -- R17.30 160 := more.go:73 pick
            refine QL.v (fun w st => by first | exact r_pickT (v := .bool _) rfl rfl | exact r_pickF (v := .bool _) rfl rfl) rfl rfl rfl ?_
            -- R17.31 7 := more.go:73 assign
            refine QL.v (fun w st => by first | exact r_assign (v := .bool _) rfl | exact r_assign rfl) rfl rfl rfl ?_
            refine QL.wl hKq fun w st => ?_
            refine WL.fin hK2325 (fun _ _ h => h) ?_
            refine WC.seq fun K2326 hK2326 => ?_
            -- region 18
            refine WC.region ?_
            -- R18.0 161 := more.go:74 fieldAddr
            refine WL.v (by exact r_field ty_fld36_3 rfl) rfl rfl rfl ?_
            -- R18.1 162 := more.go:74 fieldAddr
            refine WL.v (by exact r_field ty_fld34_0 rfl) rfl rfl rfl ?_
            -- R18.2 163 := more.go:74 load
            refine WL.v (by exact r_load1 (v := .int .i64 code) ty_one30 rfl (by rw [← f7]; exact st.c1 (by decide))) rfl rfl rfl ?_
            -- R18.3 164 := more.go:74 binOp
            refine WL.v (by first | exact r_neq rfl rfl (decide_eq_true (by omega)) | exact r_neq rfl rfl (decide_eq_false (by omega)) | exact r_neq rfl rfl rfl) rfl rfl rfl ?_
            -- R18.4 165 := more.go:74 move
            refine WL.v (by first | exact r_move (v := .bool _) rfl | exact r_move rfl) rfl rfl rfl ?_
            -- R18.5 166 := more.go:74 fieldAddr
            refine WL.no rfl rfl ?_
            -- R18.6 167 := more.go:74 fieldAddr
            refine WL.no rfl rfl ?_
            -- R18.7 168 := more.go:74 load
            refine WL.no rfl rfl ?_
            -- R18.8 169 := more.go:74 binOp
            refine WL.no rfl rfl ?_
            -- R18.9 170 := more.go:74 pick
            refine WL.v (by first | exact r_pickT (v := .bool _) rfl rfl | exact r_pickF (v := .bool _) rfl rfl) rfl rfl rfl ?_
            -- R18.10 8 := more.go:74 assign
            refine WL.v (by first | exact r_assign (v := .bool _) rfl | exact r_assign rfl) rfl rfl rfl ?_
            refine WL.fin hK2326 (fun _ _ h => h) ?_
            refine WC.seq fun K2327 hK2327 => ?_
            -- region 19
            refine WC.region ?_
            -- R19.0 171 := more.go:75 move
            refine WL.v (by first | exact r_move (v := .bool _) rfl | exact r_move rfl) rfl rfl rfl ?_
            -- R19.1 172 := more.go:75 move
            refine WL.v (by first | exact r_move (v := .bool _) rfl | exact r_move rfl) rfl rfl rfl ?_
            -- R19.2 173 := more.go:75 move
            refine WL.no rfl rfl ?_
            -- R19.3 174 := more.go:75 fieldAddr
            refine WL.no rfl rfl ?_
            -- R19.4 175 := more.go:75 fieldAddr
            refine WL.no rfl rfl ?_
            -- R19.5 176 := more.go:75 load
            refine WL.no rfl rfl ?_
            -- R19.6 177 := more.go:75 binOp
            refine WL.no rfl rfl ?_
            -- R19.7 178 := more.go:75 binOp
            refine WL.no rfl rfl ?_
            -- R19.8 179 := more.go:75 pick
            refine WL.v (by first | exact r_pickT (v := .bool _) rfl rfl | exact r_pickF (v := .bool _) rfl rfl) rfl rfl rfl ?_
            refine WL.fin hK2327 (fun _ _ h => h) ?_
            refine WC.condF rfl rfl ?_
            refine WC.skipJ hKC (fun _ _ h => h) () (by rw [hcs]; exact st) (by repeat (first | exact sub_nil _ | refine sub_cons rfl rfl ?_))
          · skip
            refine WC.seq fun K2328 hK2328 => ?_
            -- region 6
            refine WC.region ?_
            -- R6.0 60 := more.go:62 fieldAddr
            refine WL.v (by exact r_field ty_fld36_0 rfl) rfl rfl rfl ?_
            -- R6.1 61 := more.go:62 fieldAddr
            refine WL.v (by exact r_field ty_fld28_0 rfl) rfl rfl rfl ?_
            -- R6.2 62 := more.go:62 load
            refine WL.v (by exact r_load1 (v := .int .u8 (o.kind : Nat)) ty_one25 rfl (by rw [← f0]; exact st.c1 (by decide))) rfl rfl rfl ?_
            refine WL.fin hK2328 (fun _ _ h => h) ?_
            refine WC.block ?_
            refine WC.seq fun K2329 hK2329 => ?_
            -- region 7
            refine WC.region ?_
            -- R7.0 64 := more.go:63 binOp
            refine WL.v (by first | exact r_eql rfl rfl (decide_eq_true (by omega)) | exact r_eql rfl rfl (decide_eq_false (by omega)) | exact r_eql rfl rfl rfl) rfl rfl rfl ?_
            -- R7.1 63 := more.go:63 assign
            refine WL.v (by first | exact r_assign (v := .bool _) rfl | exact r_assign rfl) rfl rfl rfl ?_
            refine WL.fin hK2329 (fun _ _ h => h) ?_
            refine WC.condF rfl rfl ?_
            refine WC.seq fun K2330 hK2330 => ?_
            refine WC.seq fun K2331 hK2331 => ?_
            -- region 14
            refine WC.region ?_
            -- R14.0 127 := more.go:72 binOp
            refine WL.v (by first | exact r_eql rfl rfl (decide_eq_true (by omega)) | exact r_eql rfl rfl (decide_eq_false (by omega)) | exact r_eql rfl rfl rfl) rfl rfl rfl ?_
            -- R14.1 126 := more.go:72 assign
            refine WL.v (by first | exact r_assign (v := .bool _) rfl | exact r_assign rfl) rfl rfl rfl ?_
            refine WL.fin hK2331 (fun _ _ h => h) ?_
            refine WC.condF rfl rfl ?_
            refine WC.seq fun K2332 hK2332 => ?_
            -- region 15
            refine WC.region ?_
            -- R15.0 128 := more.go:72 binOp
            refine WL.v (by first | exact r_eql rfl rfl (decide_eq_true (by omega)) | exact r_eql rfl rfl (decide_eq_false (by omega)) | exact r_eql rfl rfl rfl) rfl rfl rfl ?_
            -- R15.1 126 := more.go:72 assign
            refine WL.v (by first | exact r_assign (v := .bool _) rfl | exact r_assign rfl) rfl rfl rfl ?_
            refine WL.fin hK2332 (fun _ _ h => h) ?_
            refine WC.condF rfl rfl ?_
            -- region 16
            refine WC.region ?_
            -- R16.0 129 := more.go:72 binOp
            refine WL.v (by first | exact r_eql rfl rfl (decide_eq_true (by omega)) | exact r_eql rfl rfl (decide_eq_false (by omega)) | exact r_eql rfl rfl rfl) rfl rfl rfl ?_
            -- R16.1 126 := more.go:72 assign
            refine WL.v (by first | exact r_assign (v := .bool _) rfl | exact r_assign rfl) rfl rfl rfl ?_
            refine WL.fin hK2330 (fun _ _ h => h) ?_
            refine WC.condT rfl rfl ?_
            refine WC.seq fun K2333 hK2333 => ?_
            -- region 17 (draws)
            refine WC.quietS st ty_mixed (by kernel_rfl) fun Kq hKq => ?_
            -- R17.0 130 := more.go:73 fieldAddr
            refine QL.v (fun w st => by exact r_field ty_fld36_1 rfl) rfl rfl rfl ?_
            -- R17.1 131 := more.go:73 load
            refine QL.v (fun w st => by exact r_load1 (v := .pointer (some ⟨bB, 0, none⟩)) ty_one29 rfl (by rw [← f5]; exact st.c1 (by decide))) rfl rfl rfl ?_
            -- R17.2 132 := more.go:73 nilCheck
            refine QL.v (fun w st => by exact r_nilCheck rfl) rfl rfl rfl ?_
            -- R17.3 133 := more.go:73 fieldAddr
            refine QL.v (fun w st => by exact r_field ty_fld50_0 rfl) rfl rfl rfl ?_
            -- R17.4 134 := more.go:73 load
            refine QL.v (fun w st => by exact r_load1 (v := .int .i64 (s.mode : Nat)) ty_one40 rfl (c_s (hck2 _ _).B (by decide) rfl st)) rfl rfl rfl ?_
            -- R17.5 135 := more.go:73 binOp
            refine QL.v (fun w st => by first | exact r_eql rfl rfl (decide_eq_true (by omega)) | exact r_eql rfl rfl (decide_eq_false (by omega)) | exact r_eql rfl rfl rfl) rfl rfl rfl ?_
            -- R17.6 136 := more.go:73 move
            refine QL.v (fun w st => by first | exact r_move (v := .bool _) rfl | exact r_move rfl) rfl rfl rfl ?_
            -- R17.7 137 := more.go:73 fieldAddr
            refine QL.no rfl rfl ?_
            -- R17.8 138 := more.go:73 fieldAddr
            refine QL.no rfl rfl ?_
            -- R17.9 139 := more.go:73 load
            refine QL.no rfl rfl ?_
            -- R17.10 140 := more.go:73 fieldAddr
            refine QL.no rfl rfl ?_
            -- R17.11 141 := more.go:73 load
            refine QL.no rfl rfl ?_
            -- R17.12 142 := more.go:73 move
            refine QL.no rfl rfl ?_
            -- R17.13 143 := more.go:73 move
            refine QL.no rfl rfl ?_
            -- R17.14 144 := more.go:73 nilCheck
            refine QL.no rfl rfl ?_
            -- R17.15 145 := more.go:73 fieldAddr
            refine QL.no rfl rfl ?_
            -- R17.16 146 := more.go:73 indexAddr
            refine QL.no rfl rfl ?_
            -- R17.17 147 := more.go:73 indexAddr
            refine QL.no rfl rfl ?_
            -- R17.18 148 := more.go:73 load
            refine QL.no rfl rfl ?_
            -- R17.19 149 := more.go:73 fieldAddr
            refine QL.no rfl rfl ?_
            -- R17.20 150 := more.go:73 load
            refine QL.no rfl rfl ?_
            -- R17.21 151 := more.go:73 move
            refine QL.no rfl rfl ?_
            -- R17.22 152 := more.go:73 move
            refine QL.no rfl rfl ?_
            -- R17.23 153 := more.go:73 nilCheck
            refine QL.no rfl rfl ?_
            -- R17.24 154 := more.go:73 fieldAddr
            refine QL.no rfl rfl ?_
            -- R17.25 155 := more.go:73 indexAddr
            refine QL.no rfl rfl ?_
            -- R17.26 156 := more.go:73 indexAddr
            refine QL.no rfl rfl ?_
            -- R17.27 157 := more.go:73 load
            refine QL.no rfl rfl ?_
            -- R17.28 158 := more.go:73 binOp
            refine QL.no rfl rfl ?_
            -- R17.29 159 := more.go:73 binOp
            refine QL.no rfl rfl ?_
            -- R17.30 160 := more.go:73 pick
            refine QL.v (fun w st => by first | exact r_pickT (v := .bool _) rfl rfl | exact r_pickF (v := .bool _) rfl rfl) rfl rfl rfl ?_
            -- R17.31 7 := more.go:73 assign
            refine QL.v (fun w st => by first | exact r_assign (v := .bool _) rfl | exact r_assign rfl) rfl rfl rfl ?_
            refine QL.wl hKq fun w st => ?_
            refine WL.fin hK2333 (fun _ _ h => h) ?_
            refine WC.seq fun K2334 hK2334 => ?_
            -- region 18
            refine WC.region ?_
            -- R18.0 161 := more.go:74 fieldAddr
            refine WL.v (by exact r_field ty_fld36_3 rfl) rfl rfl rfl ?_
            -- R18.1 162 := more.go:74 fieldAddr
            refine WL.v (by exact r_field ty_fld34_0 rfl) rfl rfl rfl ?_
            -- R18.2 163 := more.go:74 load
            refine WL.v (by exact r_load1 (v := .int .i64 code) ty_one30 rfl (by rw [← f7]; exact st.c1 (by decide))) rfl rfl rfl ?_
            -- R18.3 164 := more.go:74 binOp
            refine WL.v (by first | exact r_neq rfl rfl (decide_eq_true (by omega)) | exact r_neq rfl rfl (decide_eq_false (by omega)) | exact r_neq rfl rfl rfl) rfl rfl rfl ?_
            -- R18.4 165 := more.go:74 move
            refine WL.v (by first | exact r_move (v := .bool _) rfl | exact r_move rfl) rfl rfl rfl ?_
            -- R18.5 166 := more.go:74 fieldAddr
            refine WL.no rfl rfl ?_
            -- R18.6 167 := more.go:74 fieldAddr
            refine WL.no rfl rfl ?_
            -- R18.7 168 := more.go:74 load
            refine WL.no rfl rfl ?_
            -- R18.8 169 := more.go:74 binOp
            refine WL.no rfl rfl ?_
            -- R18.9 170 := more.go:74 pick
            refine WL.v (by first | exact r_pickT (v := .bool _) rfl rfl | exact r_pickF (v := .bool _) rfl rfl) rfl rfl rfl ?_
            -- R18.10 8 := more.go:74 assign
            refine WL.v (by first | exact r_assign (v := .bool _) rfl | exact r_assign rfl) rfl rfl rfl ?_
            refine WL.fin hK2334 (fun _ _ h => h) ?_
            refine WC.seq fun K2335 hK2335 => ?_
            -- region 19
            refine WC.region ?_
            -- R19.0 171 := more.go:75 move
            refine WL.v (by first | exact r_move (v := .bool _) rfl | exact r_move rfl) rfl rfl rfl ?_
            -- R19.1 172 := more.go:75 move
            refine WL.v (by first | exact r_move (v := .bool _) rfl | exact r_move rfl) rfl rfl rfl ?_
            -- R19.2 173 := more.go:75 move
            refine WL.no rfl rfl ?_
            -- R19.3 174 := more.go:75 fieldAddr
            refine WL.no rfl rfl ?_
            -- R19.4 175 := more.go:75 fieldAddr
            refine WL.no rfl rfl ?_
            -- R19.5 176 := more.go:75 load
            refine WL.no rfl rfl ?_
            -- R19.6 177 := more.go:75 binOp
            refine WL.no rfl rfl ?_
            -- R19.7 178 := more.go:75 binOp
            refine WL.no rfl rfl ?_
            -- R19.8 179 := more.go:75 pick
            refine WL.v (by first | exact r_pickT (v := .bool _) rfl rfl | exact r_pickF (v := .bool _) rfl rfl) rfl rfl rfl ?_
            refine WL.fin hK2335 (fun _ _ h => h) ?_
            refine WC.condF rfl rfl ?_
            refine WC.skipJ hKC (fun _ _ h => h) () (by rw [hcs]; exact st) (by repeat (first | exact sub_nil _ | refine sub_cons rfl rfl ?_))
        by_cases h15 : code = 15
        · skip
          rcases (by omega : o.kind = 3 ∨ o.kind = 4 ∨ o.kind = 5) with hk3 | hk4 | hk5
          · skip
            refine WC.seq fun K2336 hK2336 => ?_
            -- region 6
            refine WC.region ?_
            -- R6.0 60 := more.go:62 fieldAddr
            refine WL.v (by exact r_field ty_fld36_0 rfl) rfl rfl rfl ?_
            -- R6.1 61 := more.go:62 fieldAddr
            refine WL.v (by exact r_field ty_fld28_0 rfl) rfl rfl rfl ?_
            -- R6.2 62 := more.go:62 load
            refine WL.v (by exact r_load1 (v := .int .u8 (o.kind : Nat)) ty_one25 rfl (by rw [← f0]; exact st.c1 (by decide))) rfl rfl rfl ?_
            refine WL.fin hK2336 (fun _ _ h => h) ?_
            refine WC.block ?_
            refine WC.seq fun K2337 hK2337 => ?_
            -- region 7
            refine WC.region ?_
            -- R7.0 64 := more.go:63 binOp
            refine WL.v (by first | exact r_eql rfl rfl (decide_eq_true (by omega)) | exact r_eql rfl rfl (decide_eq_false (by omega)) | exact r_eql rfl rfl rfl) rfl rfl rfl ?_
            -- R7.1 63 := more.go:63 assign
            refine WL.v (by first | exact r_assign (v := .bool _) rfl | exact r_assign rfl) rfl rfl rfl ?_
            refine WL.fin hK2337 (fun _ _ h => h) ?_
            refine WC.condF rfl rfl ?_
            refine WC.seq fun K2338 hK2338 => ?_
            refine WC.seq fun K2339 hK2339 => ?_
            -- region 14
            refine WC.region ?_
            -- R14.0 127 := more.go:72 binOp
            refine WL.v (by first | exact r_eql rfl rfl (decide_eq_true (by omega)) | exact r_eql rfl rfl (decide_eq_false (by omega)) | exact r_eql rfl rfl rfl) rfl rfl rfl ?_
            -- R14.1 126 := more.go:72 assign
            refine WL.v (by first | exact r_assign (v := .bool _) rfl | exact r_assign rfl) rfl rfl rfl ?_
            refine WL.fin hK2339 (fun _ _ h => h) ?_
            refine WC.condT rfl rfl ?_
            refine WC.skipF hK2338 (fun _ _ h => h) ?_
            refine WC.condT rfl rfl ?_
            refine WC.seq fun K2340 hK2340 => ?_
            -- region 17 (draws)
            refine WC.quietS st ty_mixed (by kernel_rfl) fun Kq hKq => ?_
            -- R17.0 130 := more.go:73 fieldAddr
            refine QL.v (fun w st => by exact r_field ty_fld36_1 rfl) rfl rfl rfl ?_
            -- R17.1 131 := more.go:73 load
            refine QL.v (fun w st => by exact r_load1 (v := .pointer (some ⟨bB, 0, none⟩)) ty_one29 rfl (by rw [← f5]; exact st.c1 (by decide))) rfl rfl rfl ?_
            -- R17.2 132 := more.go:73 nilCheck
            refine QL.v (fun w st => by exact r_nilCheck rfl) rfl rfl rfl ?_
            -- R17.3 133 := more.go:73 fieldAddr
            refine QL.v (fun w st => by exact r_field ty_fld50_0 rfl) rfl rfl rfl ?_
            -- R17.4 134 := more.go:73 load
            refine QL.v (fun w st => by exact r_load1 (v := .int .i64 (s.mode : Nat)) ty_one40 rfl (c_s (hck2 _ _).B (by decide) rfl st)) rfl rfl rfl ?_
            -- R17.5 135 := more.go:73 binOp
            refine QL.v (fun w st => by first | exact r_eql rfl rfl (decide_eq_true (by omega)) | exact r_eql rfl rfl (decide_eq_false (by omega)) | exact r_eql rfl rfl rfl) rfl rfl rfl ?_
            -- R17.6 136 := more.go:73 move
            refine QL.v (fun w st => by first | exact r_move (v := .bool _) rfl | exact r_move rfl) rfl rfl rfl ?_
            -- R17.7 137 := more.go:73 fieldAddr
            refine QL.no rfl rfl ?_
            -- R17.8 138 := more.go:73 fieldAddr
            refine QL.no rfl rfl ?_
            -- R17.9 139 := more.go:73 load
            refine QL.no rfl rfl ?_
            -- R17.10 140 := more.go:73 fieldAddr
            refine QL.no rfl rfl ?_
            -- R17.11 141 := more.go:73 load
            refine QL.no rfl rfl ?_
            -- R17.12 142 := more.go:73 move
            refine QL.no rfl rfl ?_
            -- R17.13 143 := more.go:73 move
            refine QL.no rfl rfl ?_
            -- R17.14 144 := more.go:73 nilCheck
            refine QL.no rfl rfl ?_
            -- R17.15 145 := more.go:73 fieldAddr
            refine QL.no rfl rfl ?_
            -- R17.16 146 := more.go:73 indexAddr
            refine QL.no rfl rfl ?_
            -- R17.17 147 := more.go:73 indexAddr
            refine QL.no rfl rfl ?_
            -- R17.18 148 := more.go:73 load
            refine QL.no rfl rfl ?_
            -- R17.19 149 := more.go:73 fieldAddr
            refine QL.no rfl rfl ?_
            -- R17.20 150 := more.go:73 load
            refine QL.no rfl rfl ?_
            -- R17.21 151 := more.go:73 move
            refine QL.no rfl rfl ?_
            -- R17.22 152 := more.go:73 move
            refine QL.no rfl rfl ?_
            -- R17.23 153 := more.go:73 nilCheck
            refine QL.no rfl rfl ?_
            -- R17.24 154 := more.go:73 fieldAddr
            refine QL.no rfl rfl ?_
            -- R17.25 155 := more.go:73 indexAddr
            refine QL.no rfl rfl ?_
            -- R17.26 156 := more.go:73 indexAddr
            refine QL.no rfl rfl ?_
            -- R17.27 157 := more.go:73 load
            refine QL.no rfl rfl ?_
            -- R17.28 158 := more.go:73 binOp
            refine QL.no rfl rfl ?_
            -- R17.29 159 := more.go:73 binOp
            refine QL.no rfl rfl ?_
            -- R17.30 160 := more.go:73 pick
            refine QL.v (fun w st => by first | exact r_pickT (v := .bool _) rfl rfl | exact r_pickF (v := .bool _) rfl rfl) rfl rfl rfl ?_
            -- R17.31 7 := more.go:73 assign
            refine QL.v (fun w st => by first | exact r_assign (v := .bool _) rfl | exact r_assign rfl) rfl rfl rfl ?_
            refine QL.wl hKq fun w st => ?_
            refine WL.fin hK2340 (fun _ _ h => h) ?_
            refine WC.seq fun K2341 hK2341 => ?_
            -- region 18
            refine WC.region ?_
            -- R18.0 161 := more.go:74 fieldAddr
            refine WL.v (by exact r_field ty_fld36_3 rfl) rfl rfl rfl ?_
            -- R18.1 162 := more.go:74 fieldAddr
            refine WL.v (by exact r_field ty_fld34_0 rfl) rfl rfl rfl ?_
            -- R18.2 163 := more.go:74 load
            refine WL.v (by exact r_load1 (v := .int .i64 code) ty_one30 rfl (by rw [← f7]; exact st.c1 (by decide))) rfl rfl rfl ?_
            -- R18.3 164 := more.go:74 binOp
            refine WL.v (by first | exact r_neq rfl rfl (decide_eq_true (by omega)) | exact r_neq rfl rfl (decide_eq_false (by omega)) | exact r_neq rfl rfl rfl) rfl rfl rfl ?_
            -- R18.4 165 := more.go:74 move
            refine WL.v (by first | exact r_move (v := .bool _) rfl | exact r_move rfl) rfl rfl rfl ?_
            -- R18.5 166 := more.go:74 fieldAddr
            refine WL.v (by exact r_field ty_fld36_3 rfl) rfl rfl rfl ?_
            -- R18.6 167 := more.go:74 fieldAddr
            refine WL.v (by exact r_field ty_fld34_0 rfl) rfl rfl rfl ?_
            -- R18.7 168 := more.go:74 load
            refine WL.v (by exact r_load1 (v := .int .i64 code) ty_one30 rfl (by rw [← f7]; exact st.c1 (by decide))) rfl rfl rfl ?_
            -- R18.8 169 := more.go:74 binOp
            refine WL.v (by first | exact r_neq rfl rfl (decide_eq_true (by omega)) | exact r_neq rfl rfl (decide_eq_false (by omega)) | exact r_neq rfl rfl rfl) rfl rfl rfl ?_
            -- R18.9 170 := more.go:74 pick
            refine WL.v (by first | exact r_pickT (v := .bool _) rfl rfl | exact r_pickF (v := .bool _) rfl rfl) rfl rfl rfl ?_
            -- R18.10 8 := more.go:74 assign
            refine WL.v (by first | exact r_assign (v := .bool _) rfl | exact r_assign rfl) rfl rfl rfl ?_
            refine WL.fin hK2341 (fun _ _ h => h) ?_
            refine WC.seq fun K2342 hK2342 => ?_
            -- region 19
            refine WC.region ?_
            -- R19.0 171 := more.go:75 move
            refine WL.v (by first | exact r_move (v := .bool _) rfl | exact r_move rfl) rfl rfl rfl ?_
            -- R19.1 172 := more.go:75 move
            refine WL.v (by first | exact r_move (v := .bool _) rfl | exact r_move rfl) rfl rfl rfl ?_
            -- R19.2 173 := more.go:75 move
            refine WL.no rfl rfl ?_
            -- R19.3 174 := more.go:75 fieldAddr
            refine WL.no rfl rfl ?_
            -- R19.4 175 := more.go:75 fieldAddr
            refine WL.no rfl rfl ?_
            -- R19.5 176 := more.go:75 load
            refine WL.no rfl rfl ?_
            -- R19.6 177 := more.go:75 binOp
            refine WL.no rfl rfl ?_
            -- R19.7 178 := more.go:75 binOp
            refine WL.no rfl rfl ?_
            -- R19.8 179 := more.go:75 pick
            refine WL.v (by first | exact r_pickT (v := .bool _) rfl rfl | exact r_pickF (v := .bool _) rfl rfl) rfl rfl rfl ?_
            refine WL.fin hK2342 (fun _ _ h => h) ?_
            refine WC.condF rfl rfl ?_
            refine WC.skipJ hKC (fun _ _ h => h) () (by rw [hcs]; exact st) (by repeat (first | exact sub_nil _ | refine sub_cons rfl rfl ?_))
          · skip
            refine WC.seq fun K2343 hK2343 => ?_
            -- region 6
            refine WC.region ?_
            -- R6.0 60 := more.go:62 fieldAddr
            refine WL.v (by exact r_field ty_fld36_0 rfl) rfl rfl rfl ?_
            -- R6.1 61 := more.go:62 fieldAddr
            refine WL.v (by exact r_field ty_fld28_0 rfl) rfl rfl rfl ?_
            -- R6.2 62 := more.go:62 load
            refine WL.v (by exact r_load1 (v := .int .u8 (o.kind : Nat)) ty_one25 rfl (by rw [← f0]; exact st.c1 (by decide))) rfl rfl rfl ?_
            refine WL.fin hK2343 (fun _ _ h => h) ?_
            refine WC.block ?_
            refine WC.seq fun K2344 hK2344 => ?_
            -- region 7
            refine WC.region ?_
            -- R7.0 64 := more.go:63 binOp
            refine WL.v (by first | exact r_eql rfl rfl (decide_eq_true (by omega)) | exact r_eql rfl rfl (decide_eq_false (by omega)) | exact r_eql rfl rfl rfl) rfl rfl rfl ?_
            -- R7.1 63 := more.go:63 assign
            refine WL.v (by first | exact r_assign (v := .bool _) rfl | exact r_assign rfl) rfl rfl rfl ?_
            refine WL.fin hK2344 (fun _ _ h => h) ?_
            refine WC.condF rfl rfl ?_
            refine WC.seq fun K2345 hK2345 => ?_
            refine WC.seq fun K2346 hK2346 => ?_
            -- region 14
            refine WC.region ?_
            -- R14.0 127 := more.go:72 binOp
            refine WL.v (by first | exact r_eql rfl rfl (decide_eq_true (by omega)) | exact r_eql rfl rfl (decide_eq_false (by omega)) | exact r_eql rfl rfl rfl) rfl rfl rfl ?_
            -- R14.1 126 := more.go:72 assign
            refine WL.v (by first | exact r_assign (v := .bool _) rfl | exact r_assign rfl) rfl rfl rfl ?_
            refine WL.fin hK2346 (fun _ _ h => h) ?_
            refine WC.condF rfl rfl ?_
            refine WC.seq fun K2347 hK2347 => ?_
            -- region 15
            refine WC.region ?_
            -- R15.0 128 := more.go:72 binOp
            refine WL.v (by first | exact r_eql rfl rfl (decide_eq_true (by omega)) | exact r_eql rfl rfl (decide_eq_false (by omega)) | exact r_eql rfl rfl rfl) rfl rfl rfl ?_
            -- R15.1 126 := more.go:72 assign
            refine WL.v (by first | exact r_assign (v := .bool _) rfl | exact r_assign rfl) rfl rfl rfl ?_
            refine WL.fin hK2347 (fun _ _ h => h) ?_
            refine WC.condT rfl rfl ?_
            refine WC.skipF hK2345 (fun _ _ h => h) ?_
            refine WC.condT rfl rfl ?_
            refine WC.seq fun K2348 hK2348 => ?_
            -- region 17 (draws)
            refine WC.quietS st ty_mixed (by kernel_rfl) fun Kq hKq => ?_
            -- R17.0 130 := more.go:73 fieldAddr
            refine QL.v (fun w st => by exact r_field ty_fld36_1 rfl) rfl rfl rfl ?_
            -- R17.1 131 := more.go:73 load
            refine QL.v (fun w st => by exact r_load1 (v := .pointer (some ⟨bB, 0, none⟩)) ty_one29 rfl (by rw [← f5]; exact st.c1 (by decide))) rfl rfl rfl ?_
            -- R17.2 132 := more.go:73 nilCheck
            refine QL.v (fun w st => by exact r_nilCheck rfl) rfl rfl rfl ?_
            -- R17.3 133 := more.go:73 fieldAddr
            refine QL.v (fun w st => by exact r_field ty_fld50_0 rfl) rfl rfl rfl ?_
            -- R17.4 134 := more.go:73 load
            refine QL.v (fun w st => by exact r_load1 (v := .int .i64 (s.mode : Nat)) ty_one40 rfl (c_s (hck2 _ _).B (by decide) rfl st)) rfl rfl rfl ?_
            -- R17.5 135 := more.go:73 binOp
            refine QL.v (fun w st => by first | exact r_eql rfl rfl (decide_eq_true (by omega)) | exact r_eql rfl rfl (decide_eq_false (by omega)) | exact r_eql rfl rfl rfl) rfl rfl rfl ?_
            -- R17.6 136 := more.go:73 move
            refine QL.v (fun w st => by first | exact r_move (v := .bool _) rfl | exact r_move rfl) rfl rfl rfl ?_
            -- R17.7 137 := more.go:73 fieldAddr
            refine QL.no rfl rfl ?_
            -- R17.8 138 := more.go:73 fieldAddr
            refine QL.no rfl rfl ?_
            -- R17.9 139 := more.go:73 load
            refine QL.no rfl rfl ?_
            -- R17.10 140 := more.go:73 fieldAddr
            refine QL.no rfl rfl ?_
            -- R17.11 141 := more.go:73 load
            refine QL.no rfl rfl ?_
            -- R17.12 142 := more.go:73 move
            refine QL.no rfl rfl ?_
            -- R17.13 143 := more.go:73 move
            refine QL.no rfl rfl ?_
            -- R17.14 144 := more.go:73 nilCheck
            refine QL.no rfl rfl ?_
            -- R17.15 145 := more.go:73 fieldAddr
            refine QL.no rfl rfl ?_
            -- R17.16 146 := more.go:73 indexAddr
            refine QL.no rfl rfl ?_
            -- R17.17 147 := more.go:73 indexAddr
            refine QL.no rfl rfl ?_
            -- R17.18 148 := more.go:73 load
            refine QL.no rfl rfl ?_
            -- R17.19 149 := more.go:73 fieldAddr
            refine QL.no rfl rfl ?_
            -- R17.20 150 := more.go:73 load
            refine QL.no rfl rfl ?_
            -- R17.21 151 := more.go:73 move
            refine QL.no rfl rfl ?_
            -- R17.22 152 := more.go:73 move
            refine QL.no rfl rfl ?_
            -- R17.23 153 := more.go:73 nilCheck
            refine QL.no rfl rfl ?_
            -- R17.24 154 := more.go:73 fieldAddr
            refine QL.no rfl rfl ?_
            -- R17.25 155 := more.go:73 indexAddr
            refine QL.no rfl rfl ?_
            -- R17.26 156 := more.go:73 indexAddr
            refine QL.no rfl rfl ?_
            -- R17.27 157 := more.go:73 load
            refine QL.no rfl rfl ?_
            -- R17.28 158 := more.go:73 binOp
            refine QL.no rfl rfl ?_
            -- R17.29 159 := more.go:73 binOp
            refine QL.no rfl rfl ?_
            -- R17.30 160 := more.go:73 pick
            refine QL.v (fun w st => by first | exact r_pickT (v := .bool _) rfl rfl | exact r_pickF (v := .bool _) rfl rfl) rfl rfl rfl ?_
            -- R17.31 7 := more.go:73 assign
            refine QL.v (fun w st => by first | exact r_assign (v := .bool _) rfl | exact r_assign rfl) rfl rfl rfl ?_
            refine QL.wl hKq fun w st => ?_
            refine WL.fin hK2348 (fun _ _ h => h) ?_
            refine WC.seq fun K2349 hK2349 => ?_
            -- region 18
            refine WC.region ?_
            -- R18.0 161 := more.go:74 fieldAddr
            refine WL.v (by exact r_field ty_fld36_3 rfl) rfl rfl rfl ?_
            -- R18.1 162 := more.go:74 fieldAddr
            refine WL.v (by exact r_field ty_fld34_0 rfl) rfl rfl rfl ?_
            -- R18.2 163 := more.go:74 load
            refine WL.v (by exact r_load1 (v := .int .i64 code) ty_one30 rfl (by rw [← f7]; exact st.c1 (by decide))) rfl rfl rfl ?_
            -- R18.3 164 := more.go:74 binOp
            refine WL.v (by first | exact r_neq rfl rfl (decide_eq_true (by omega)) | exact r_neq rfl rfl (decide_eq_false (by omega)) | exact r_neq rfl rfl rfl) rfl rfl rfl ?_
            -- R18.4 165 := more.go:74 move
            refine WL.v (by first | exact r_move (v := .bool _) rfl | exact r_move rfl) rfl rfl rfl ?_
            -- R18.5 166 := more.go:74 fieldAddr
            refine WL.v (by exact r_field ty_fld36_3 rfl) rfl rfl rfl ?_
            -- R18.6 167 := more.go:74 fieldAddr
            refine WL.v (by exact r_field ty_fld34_0 rfl) rfl rfl rfl ?_
            -- R18.7 168 := more.go:74 load
            refine WL.v (by exact r_load1 (v := .int .i64 code) ty_one30 rfl (by rw [← f7]; exact st.c1 (by decide))) rfl rfl rfl ?_
            -- R18.8 169 := more.go:74 binOp
            refine WL.v (by first | exact r_neq rfl rfl (decide_eq_true (by omega)) | exact r_neq rfl rfl (decide_eq_false (by omega)) | exact r_neq rfl rfl rfl) rfl rfl rfl ?_
            -- R18.9 170 := more.go:74 pick
            refine WL.v (by first | exact r_pickT (v := .bool _) rfl rfl | exact r_pickF (v := .bool _) rfl rfl) rfl rfl rfl ?_
            -- R18.10 8 := more.go:74 assign
            refine WL.v (by first | exact r_assign (v := .bool _) rfl | exact r_assign rfl) rfl rfl rfl ?_
            refine WL.fin hK2349 (fun _ _ h => h) ?_
            refine WC.seq fun K2350 hK2350 => ?_
            -- region 19
            refine WC.region ?_
            -- R19.0 171 := more.go:75 move
            refine WL.v (by first | exact r_move (v := .bool _) rfl | exact r_move rfl) rfl rfl rfl ?_
            -- R19.1 172 := more.go:75 move
            refine WL.v (by first | exact r_move (v := .bool _) rfl | exact r_move rfl) rfl rfl rfl ?_
            -- R19.2 173 := more.go:75 move
            refine WL.no rfl rfl ?_
            -- R19.3 174 := more.go:75 fieldAddr
            refine WL.no rfl rfl ?_
            -- R19.4 175 := more.go:75 fieldAddr
            refine WL.no rfl rfl ?_
            -- R19.5 176 := more.go:75 load
            refine WL.no rfl rfl ?_
            -- R19.6 177 := more.go:75 binOp
            refine WL.no rfl rfl ?_
            -- R19.7 178 := more.go:75 binOp
            refine WL.no rfl rfl ?_
            -- R19.8 179 := more.go:75 pick
            refine WL.v (by first | exact r_pickT (v := .bool _) rfl rfl | exact r_pickF (v := .bool _) rfl rfl) rfl rfl rfl ?_
            refine WL.fin hK2350 (fun _ _ h => h) ?_
            refine WC.condF rfl rfl ?_
            refine WC.skipJ hKC (fun _ _ h => h) () (by rw [hcs]; exact st) (by repeat (first | exact sub_nil _ | refine sub_cons rfl rfl ?_))
          · skip
            refine WC.seq fun K2351 hK2351 => ?_
            -- region 6
            refine WC.region ?_
            -- R6.0 60 := more.go:62 fieldAddr
            refine WL.v (by exact r_field ty_fld36_0 rfl) rfl rfl rfl ?_
            -- R6.1 61 := more.go:62 fieldAddr
            refine WL.v (by exact r_field ty_fld28_0 rfl) rfl rfl rfl ?_
            -- R6.2 62 := more.go:62 load
            refine WL.v (by exact r_load1 (v := .int .u8 (o.kind : Nat)) ty_one25 rfl (by rw [← f0]; exact st.c1 (by decide))) rfl rfl rfl ?_
            refine WL.fin hK2351 (fun _ _ h => h) ?_
            refine WC.block ?_
            refine WC.seq fun K2352 hK2352 => ?_
            -- region 7
            refine WC.region ?_
            -- R7.0 64 := more.go:63 binOp
            refine WL.v (by first | exact r_eql rfl rfl (decide_eq_true (by omega)) | exact r_eql rfl rfl (decide_eq_false (by omega)) | exact r_eql rfl rfl rfl) rfl rfl rfl ?_
            -- R7.1 63 := more.go:63 assign
            refine WL.v (by first | exact r_assign (v := .bool _) rfl | exact r_assign rfl) rfl rfl rfl ?_
            refine WL.fin hK2352 (fun _ _ h => h) ?_
            refine WC.condF rfl rfl ?_
            refine WC.seq fun K2353 hK2353 => ?_
            refine WC.seq fun K2354 hK2354 => ?_
            -- region 14
            refine WC.region ?_
            -- R14.0 127 := more.go:72 binOp
            refine WL.v (by first | exact r_eql rfl rfl (decide_eq_true (by omega)) | exact r_eql rfl rfl (decide_eq_false (by omega)) | exact r_eql rfl rfl rfl) rfl rfl rfl ?_
            -- R14.1 126 := more.go:72 assign
            refine WL.v (by first | exact r_assign (v := .bool _) rfl | exact r_assign rfl) rfl rfl rfl ?_
            refine WL.fin hK2354 (fun _ _ h => h) ?_
            refine WC.condF rfl rfl ?_
            refine WC.seq fun K2355 hK2355 => ?_
            -- region 15
            refine WC.region ?_
            -- R15.0 128 := more.go:72 binOp
            refine WL.v (by first | exact r_eql rfl rfl (decide_eq_true (by omega)) | exact r_eql rfl rfl (decide_eq_false (by omega)) | exact r_eql rfl rfl rfl) rfl rfl rfl ?_
            -- R15.1 126 := more.go:72 assign
            refine WL.v (by first | exact r_assign (v := .bool _) rfl | exact r_assign rfl) rfl rfl rfl ?_
            refine WL.fin hK2355 (fun _ _ h => h) ?_
            refine WC.condF rfl rfl ?_
            -- region 16
            refine WC.region ?_
            -- R16.0 129 := more.go:72 binOp
            refine WL.v (by first | exact r_eql rfl rfl (decide_eq_true (by omega)) | exact r_eql rfl rfl (decide_eq_false (by omega)) | exact r_eql rfl rfl rfl) rfl rfl rfl ?_
            -- R16.1 126 := more.go:72 assign
            refine WL.v (by first | exact r_assign (v := .bool _) rfl | exact r_assign rfl) rfl rfl rfl ?_
            refine WL.fin hK2353 (fun _ _ h => h) ?_
            refine WC.condT rfl rfl ?_
            refine WC.seq fun K2356 hK2356 => ?_
            -- region 17 (draws)
            refine WC.quietS st ty_mixed (by kernel_rfl) fun Kq hKq => ?_
            -- R17.0 130 := more.go:73 fieldAddr
            refine QL.v (fun w st => by exact r_field ty_fld36_1 rfl) rfl rfl rfl ?_
            -- R17.1 131 := more.go:73 load
            refine QL.v (fun w st => by exact r_load1 (v := .pointer (some ⟨bB, 0, none⟩)) ty_one29 rfl (by rw [← f5]; exact st.c1 (by decide))) rfl rfl rfl ?_
            -- R17.2 132 := more.go:73 nilCheck
            refine QL.v (fun w st => by exact r_nilCheck rfl) rfl rfl rfl ?_
            -- R17.3 133 := more.go:73 fieldAddr
            refine QL.v (fun w st => by exact r_field ty_fld50_0 rfl) rfl rfl rfl ?_
            -- R17.4 134 := more.go:73 load
            refine QL.v (fun w st => by exact r_load1 (v := .int .i64 (s.mode : Nat)) ty_one40 rfl (c_s (hck2 _ _).B (by decide) rfl st)) rfl rfl rfl ?_
            -- R17.5 135 := more.go:73 binOp
            refine QL.v (fun w st => by first | exact r_eql rfl rfl (decide_eq_true (by omega)) | exact r_eql rfl rfl (decide_eq_false (by omega)) | exact r_eql rfl rfl rfl) rfl rfl rfl ?_
            -- R17.6 136 := more.go:73 move
            refine QL.v (fun w st => by first | exact r_move (v := .bool _) rfl | exact r_move rfl) rfl rfl rfl ?_
            -- R17.7 137 := more.go:73 fieldAddr
            refine QL.no rfl rfl ?_
            -- R17.8 138 := more.go:73 fieldAddr
            refine QL.no rfl rfl ?_
            -- R17.9 139 := more.go:73 load
            refine QL.no rfl rfl ?_
            -- R17.10 140 := more.go:73 fieldAddr
            refine QL.no rfl rfl ?_
            -- R17.11 141 := more.go:73 load
            refine QL.no rfl rfl ?_
            -- R17.12 142 := more.go:73 move
            refine QL.no rfl rfl ?_
            -- R17.13 143 := more.go:73 move
            refine QL.no rfl rfl ?_
            -- R17.14 144 := more.go:73 nilCheck
            refine QL.no rfl rfl ?_
            -- R17.15 145 := more.go:73 fieldAddr
            refine QL.no rfl rfl ?_
            -- R17.16 146 := more.go:73 indexAddr
            refine QL.no rfl rfl ?_
            -- R17.17 147 := more.go:73 indexAddr
            refine QL.no rfl rfl ?_
            -- R17.18 148 := more.go:73 load
            refine QL.no rfl rfl ?_
            -- R17.19 149 := more.go:73 fieldAddr
            refine QL.no rfl rfl ?_
            -- R17.20 150 := more.go:73 load
            refine QL.no rfl rfl ?_
            -- R17.21 151 := more.go:73 move
            refine QL.no rfl rfl ?_
            -- R17.22 152 := more.go:73 move
            refine QL.no rfl rfl ?_
            -- R17.23 153 := more.go:73 nilCheck
            refine QL.no rfl rfl ?_
            -- R17.24 154 := more.go:73 fieldAddr
            refine QL.no rfl rfl ?_
            -- R17.25 155 := more.go:73 indexAddr
            refine QL.no rfl rfl ?_
            -- R17.26 156 := more.go:73 indexAddr
            refine QL.no rfl rfl ?_
            -- R17.27 157 := more.go:73 load
            refine QL.no rfl rfl ?_
            -- R17.28 158 := more.go:73 binOp
            refine QL.no rfl rfl ?_
            -- R17.29 159 := more.go:73 binOp
            refine QL.no rfl rfl ?_
            -- R17.30 160 := more.go:73 pick
            refine QL.v (fun w st => by first | exact r_pickT (v := .bool _) rfl rfl | exact r_pickF (v := .bool _) rfl rfl) rfl rfl rfl ?_
            -- R17.31 7 := more.go:73 assign
            refine QL.v (fun w st => by first | exact r_assign (v := .bool _) rfl | exact r_assign rfl) rfl rfl rfl ?_
            refine QL.wl hKq fun w st => ?_
            refine WL.fin hK2356 (fun _ _ h => h) ?_
            refine WC.seq fun K2357 hK2357 => ?_
            -- region 18
            refine WC.region ?_
            -- R18.0 161 := more.go:74 fieldAddr
            refine WL.v (by exact r_field ty_fld36_3 rfl) rfl rfl rfl ?_
            -- R18.1 162 := more.go:74 fieldAddr
            refine WL.v (by exact r_field ty_fld34_0 rfl) rfl rfl rfl ?_
            -- R18.2 163 := more.go:74 load
            refine WL.v (by exact r_load1 (v := .int .i64 code) ty_one30 rfl (by rw [← f7]; exact st.c1 (by decide))) rfl rfl rfl ?_
            -- R18.3 164 := more.go:74 binOp
            refine WL.v (by first | exact r_neq rfl rfl (decide_eq_true (by omega)) | exact r_neq rfl rfl (decide_eq_false (by omega)) | exact r_neq rfl rfl rfl) rfl rfl rfl ?_
            -- R18.4 165 := more.go:74 move
            refine WL.v (by first | exact r_move (v := .bool _) rfl | exact r_move rfl) rfl rfl rfl ?_
            -- R18.5 166 := more.go:74 fieldAddr
            refine WL.v (by exact r_field ty_fld36_3 rfl) rfl rfl rfl ?_
            -- R18.6 167 := more.go:74 fieldAddr
            refine WL.v (by exact r_field ty_fld34_0 rfl) rfl rfl rfl ?_
            -- R18.7 168 := more.go:74 load
            refine WL.v (by exact r_load1 (v := .int .i64 code) ty_one30 rfl (by rw [← f7]; exact st.c1 (by decide))) rfl rfl rfl ?_
            -- R18.8 169 := more.go:74 binOp
            refine WL.v (by first | exact r_neq rfl rfl (decide_eq_true (by omega)) | exact r_neq rfl rfl (decide_eq_false (by omega)) | exact r_neq rfl rfl rfl) rfl rfl rfl ?_
            -- R18.9 170 := more.go:74 pick
            refine WL.v (by first | exact r_pickT (v := .bool _) rfl rfl | exact r_pickF (v := .bool _) rfl rfl) rfl rfl rfl ?_
            -- R18.10 8 := more.go:74 assign
            refine WL.v (by first | exact r_assign (v := .bool _) rfl | exact r_assign rfl) rfl rfl rfl ?_
            refine WL.fin hK2357 (fun _ _ h => h) ?_
            refine WC.seq fun K2358 hK2358 => ?_
            -- region 19
            refine WC.region ?_
            -- R19.0 171 := more.go:75 move
            refine WL.v (by first | exact r_move (v := .bool _) rfl | exact r_move rfl) rfl rfl rfl ?_
            -- R19.1 172 := more.go:75 move
            refine WL.v (by first | exact r_move (v := .bool _) rfl | exact r_move rfl) rfl rfl rfl ?_
            -- R19.2 173 := more.go:75 move
            refine WL.no rfl rfl ?_
            -- R19.3 174 := more.go:75 fieldAddr
            refine WL.no rfl rfl ?_
            -- R19.4 175 := more.go:75 fieldAddr
            refine WL.no rfl rfl ?_
            -- R19.5 176 := more.go:75 load
            refine WL.no rfl rfl ?_
            -- R19.6 177 := more.go:75 binOp
            refine WL.no rfl rfl ?_
            -- R19.7 178 := more.go:75 binOp
            refine WL.no rfl rfl ?_
            -- R19.8 179 := more.go:75 pick
            refine WL.v (by first | exact r_pickT (v := .bool _) rfl rfl | exact r_pickF (v := .bool _) rfl rfl) rfl rfl rfl ?_
            refine WL.fin hK2358 (fun _ _ h => h) ?_
            refine WC.condF rfl rfl ?_
            refine WC.skipJ hKC (fun _ _ h => h) () (by rw [hcs]; exact st) (by repeat (first | exact sub_nil _ | refine sub_cons rfl rfl ?_))
        have hiff := ha' h14 h15
        have h21 : code ≠ 21 := fun k => hm3 (hiff.2 k).1
        rcases (by omega : o.kind = 3 ∨ o.kind = 4 ∨ o.kind = 5) with hk3 | hk4 | hk5
        · skip
          refine WC.seq fun K2359 hK2359 => ?_
          -- region 6
          refine WC.region ?_
          -- R6.0 60 := more.go:62 fieldAddr
          refine WL.v (by exact r_field ty_fld36_0 rfl) rfl rfl rfl ?_
          -- R6.1 61 := more.go:62 fieldAddr
          refine WL.v (by exact r_field ty_fld28_0 rfl) rfl rfl rfl ?_
          -- R6.2 62 := more.go:62 load
          refine WL.v (by exact r_load1 (v := .int .u8 (o.kind : Nat)) ty_one25 rfl (by rw [← f0]; exact st.c1 (by decide))) rfl rfl rfl ?_
          refine WL.fin hK2359 (fun _ _ h => h) ?_
          refine WC.block ?_
          refine WC.seq fun K2360 hK2360 => ?_
          -- region 7
          refine WC.region ?_
          -- R7.0 64 := more.go:63 binOp
          refine WL.v (by first | exact r_eql rfl rfl (decide_eq_true (by omega)) | exact r_eql rfl rfl (decide_eq_false (by omega)) | exact r_eql rfl rfl rfl) rfl rfl rfl ?_
          -- R7.1 63 := more.go:63 assign
          refine WL.v (by first | exact r_assign (v := .bool _) rfl | exact r_assign rfl) rfl rfl rfl ?_
          refine WL.fin hK2360 (fun _ _ h => h) ?_
          refine WC.condF rfl rfl ?_
          refine WC.seq fun K2361 hK2361 => ?_
          refine WC.seq fun K2362 hK2362 => ?_
          -- region 14
          refine WC.region ?_
          -- R14.0 127 := more.go:72 binOp
          refine WL.v (by first | exact r_eql rfl rfl (decide_eq_true (by omega)) | exact r_eql rfl rfl (decide_eq_false (by omega)) | exact r_eql rfl rfl rfl) rfl rfl rfl ?_
          -- R14.1 126 := more.go:72 assign
          refine WL.v (by first | exact r_assign (v := .bool _) rfl | exact r_assign rfl) rfl rfl rfl ?_
          refine WL.fin hK2362 (fun _ _ h => h) ?_
          refine WC.condT rfl rfl ?_
          refine WC.skipF hK2361 (fun _ _ h => h) ?_
          refine WC.condT rfl rfl ?_
          refine WC.seq fun K2363 hK2363 => ?_
          -- region 17 (draws)
          refine WC.quietS st ty_mixed (by kernel_rfl) fun Kq hKq => ?_
          -- R17.0 130 := more.go:73 fieldAddr
          refine QL.v (fun w st => by exact r_field ty_fld36_1 rfl) rfl rfl rfl ?_
          -- R17.1 131 := more.go:73 load
          refine QL.v (fun w st => by exact r_load1 (v := .pointer (some ⟨bB, 0, none⟩)) ty_one29 rfl (by rw [← f5]; exact st.c1 (by decide))) rfl rfl rfl ?_
          -- R17.2 132 := more.go:73 nilCheck
          refine QL.v (fun w st => by exact r_nilCheck rfl) rfl rfl rfl ?_
          -- R17.3 133 := more.go:73 fieldAddr
          refine QL.v (fun w st => by exact r_field ty_fld50_0 rfl) rfl rfl rfl ?_
          -- R17.4 134 := more.go:73 load
          refine QL.v (fun w st => by exact r_load1 (v := .int .i64 (s.mode : Nat)) ty_one40 rfl (c_s (hck2 _ _).B (by decide) rfl st)) rfl rfl rfl ?_
          -- R17.5 135 := more.go:73 binOp
          refine QL.v (fun w st => by first | exact r_eql rfl rfl (decide_eq_true (by omega)) | exact r_eql rfl rfl (decide_eq_false (by omega)) | exact r_eql rfl rfl rfl) rfl rfl rfl ?_
          -- R17.6 136 := more.go:73 move
          refine QL.v (fun w st => by first | exact r_move (v := .bool _) rfl | exact r_move rfl) rfl rfl rfl ?_
          -- R17.7 137 := more.go:73 fieldAddr
          refine QL.no rfl rfl ?_
          -- R17.8 138 := more.go:73 fieldAddr
          refine QL.no rfl rfl ?_
          -- R17.9 139 := more.go:73 load
          refine QL.no rfl rfl ?_
          -- R17.10 140 := more.go:73 fieldAddr
          refine QL.no rfl rfl ?_
          -- R17.11 141 := more.go:73 load
          refine QL.no rfl rfl ?_
          -- R17.12 142 := more.go:73 move
          refine QL.no rfl rfl ?_
          -- R17.13 143 := more.go:73 move
          refine QL.no rfl rfl ?_
          -- R17.14 144 := more.go:73 nilCheck
          refine QL.no rfl rfl ?_
          -- R17.15 145 := more.go:73 fieldAddr
          refine QL.no rfl rfl ?_
          -- R17.16 146 := more.go:73 indexAddr
          refine QL.no rfl rfl ?_
          -- R17.17 147 := more.go:73 indexAddr
          refine QL.no rfl rfl ?_
          -- R17.18 148 := more.go:73 load
          refine QL.no rfl rfl ?_
          -- R17.19 149 := more.go:73 fieldAddr
          refine QL.no rfl rfl ?_
          -- R17.20 150 := more.go:73 load
          refine QL.no rfl rfl ?_
          -- R17.21 151 := more.go:73 move
          refine QL.no rfl rfl ?_
          -- R17.22 152 := more.go:73 move
          refine QL.no rfl rfl ?_
          -- R17.23 153 := more.go:73 nilCheck
          refine QL.no rfl rfl ?_
          -- R17.24 154 := more.go:73 fieldAddr
          refine QL.no rfl rfl ?_
          -- R17.25 155 := more.go:73 indexAddr
          refine QL.no rfl rfl ?_
          -- R17.26 156 := more.go:73 indexAddr
          refine QL.no rfl rfl ?_
          -- R17.27 157 := more.go:73 load
          refine QL.no rfl rfl ?_
          -- R17.28 158 := more.go:73 binOp
          refine QL.no rfl rfl ?_
          -- R17.29 159 := more.go:73 binOp
          refine QL.no rfl rfl ?_
          -- R17.30 160 := more.go:73 pick
          refine QL.v (fun w st => by first | exact r_pickT (v := .bool _) rfl rfl | exact r_pickF (v := .bool _) rfl rfl) rfl rfl rfl ?_
          -- R17.31 7 := more.go:73 assign
          refine QL.v (fun w st => by first | exact r_assign (v := .bool _) rfl | exact r_assign rfl) rfl rfl rfl ?_
          refine QL.wl hKq fun w st => ?_
          refine WL.fin hK2363 (fun _ _ h => h) ?_
          refine WC.seq fun K2364 hK2364 => ?_
          -- region 18
          refine WC.region ?_
          -- R18.0 161 := more.go:74 fieldAddr
          refine WL.v (by exact r_field ty_fld36_3 rfl) rfl rfl rfl ?_
          -- R18.1 162 := more.go:74 fieldAddr
          refine WL.v (by exact r_field ty_fld34_0 rfl) rfl rfl rfl ?_
          -- R18.2 163 := more.go:74 load
          refine WL.v (by exact r_load1 (v := .int .i64 code) ty_one30 rfl (by rw [← f7]; exact st.c1 (by decide))) rfl rfl rfl ?_
          -- R18.3 164 := more.go:74 binOp
          refine WL.v (by first | exact r_neq rfl rfl (decide_eq_true (by omega)) | exact r_neq rfl rfl (decide_eq_false (by omega)) | exact r_neq rfl rfl rfl) rfl rfl rfl ?_
          -- R18.4 165 := more.go:74 move
          refine WL.v (by first | exact r_move (v := .bool _) rfl | exact r_move rfl) rfl rfl rfl ?_
          -- R18.5 166 := more.go:74 fieldAddr
          refine WL.v (by exact r_field ty_fld36_3 rfl) rfl rfl rfl ?_
          -- R18.6 167 := more.go:74 fieldAddr
          refine WL.v (by exact r_field ty_fld34_0 rfl) rfl rfl rfl ?_
          -- R18.7 168 := more.go:74 load
          refine WL.v (by exact r_load1 (v := .int .i64 code) ty_one30 rfl (by rw [← f7]; exact st.c1 (by decide))) rfl rfl rfl ?_
          -- R18.8 169 := more.go:74 binOp
          refine WL.v (by first | exact r_neq rfl rfl (decide_eq_true (by omega)) | exact r_neq rfl rfl (decide_eq_false (by omega)) | exact r_neq rfl rfl rfl) rfl rfl rfl ?_
          -- R18.9 170 := more.go:74 pick
          refine WL.v (by first | exact r_pickT (v := .bool _) rfl rfl | exact r_pickF (v := .bool _) rfl rfl) rfl rfl rfl ?_
          -- R18.10 8 := more.go:74 assign
          refine WL.v (by first | exact r_assign (v := .bool _) rfl | exact r_assign rfl) rfl rfl rfl ?_
          refine WL.fin hK2364 (fun _ _ h => h) ?_
          refine WC.seq fun K2365 hK2365 => ?_
          -- region 19
          refine WC.region ?_
          -- R19.0 171 := more.go:75 move
          refine WL.v (by first | exact r_move (v := .bool _) rfl | exact r_move rfl) rfl rfl rfl ?_
          -- R19.1 172 := more.go:75 move
          refine WL.v (by first | exact r_move (v := .bool _) rfl | exact r_move rfl) rfl rfl rfl ?_
          -- R19.2 173 := more.go:75 move
          refine WL.v (by first | exact r_move (v := .bool _) rfl | exact r_move rfl) rfl rfl rfl ?_
          -- R19.3 174 := more.go:75 fieldAddr
          refine WL.v (by exact r_field ty_fld36_3 rfl) rfl rfl rfl ?_
          -- R19.4 175 := more.go:75 fieldAddr
          refine WL.v (by exact r_field ty_fld34_0 rfl) rfl rfl rfl ?_
          -- R19.5 176 := more.go:75 load
          refine WL.v (by exact r_load1 (v := .int .i64 code) ty_one30 rfl (by rw [← f7]; exact st.c1 (by decide))) rfl rfl rfl ?_
          -- R19.6 177 := more.go:75 binOp
          refine WL.v (by first | exact r_eql rfl rfl (decide_eq_true (by omega)) | exact r_eql rfl rfl (decide_eq_false (by omega)) | exact r_eql rfl rfl rfl) rfl rfl rfl ?_
          -- R19.7 178 := more.go:75 binOp
          refine WL.v (by exact r_bneq ty_bool4 rfl rfl rfl) rfl rfl rfl ?_
          -- R19.8 179 := more.go:75 pick
          refine WL.v (by first | exact r_pickT (v := .bool _) rfl rfl | exact r_pickF (v := .bool _) rfl rfl) rfl rfl rfl ?_
          refine WL.fin hK2365 (fun _ _ h => h) ?_
          refine WC.condF rfl rfl ?_
          refine WC.skipJ hKC (fun _ _ h => h) () (by rw [hcs]; exact st) (by repeat (first | exact sub_nil _ | refine sub_cons rfl rfl ?_))
        · skip
          refine WC.seq fun K2366 hK2366 => ?_
          -- region 6
          refine WC.region ?_
          -- R6.0 60 := more.go:62 fieldAddr
          refine WL.v (by exact r_field ty_fld36_0 rfl) rfl rfl rfl ?_
          -- R6.1 61 := more.go:62 fieldAddr
          refine WL.v (by exact r_field ty_fld28_0 rfl) rfl rfl rfl ?_
          -- R6.2 62 := more.go:62 load
          refine WL.v (by exact r_load1 (v := .int .u8 (o.kind : Nat)) ty_one25 rfl (by rw [← f0]; exact st.c1 (by decide))) rfl rfl rfl ?_
          refine WL.fin hK2366 (fun _ _ h => h) ?_
          refine WC.block ?_
          refine WC.seq fun K2367 hK2367 => ?_
          -- region 7
          refine WC.region ?_
          -- R7.0 64 := more.go:63 binOp
          refine WL.v (by first | exact r_eql rfl rfl (decide_eq_true (by omega)) | exact r_eql rfl rfl (decide_eq_false (by omega)) | exact r_eql rfl rfl rfl) rfl rfl rfl ?_
          -- R7.1 63 := more.go:63 assign
          refine WL.v (by first | exact r_assign (v := .bool _) rfl | exact r_assign rfl) rfl rfl rfl ?_
          refine WL.fin hK2367 (fun _ _ h => h) ?_
          refine WC.condF rfl rfl ?_
          refine WC.seq fun K2368 hK2368 => ?_
          refine WC.seq fun K2369 hK2369 => ?_
          -- region 14
          refine WC.region ?_
          -- R14.0 127 := more.go:72 binOp
          refine WL.v (by first | exact r_eql rfl rfl (decide_eq_true (by omega)) | exact r_eql rfl rfl (decide_eq_false (by omega)) | exact r_eql rfl rfl rfl) rfl rfl rfl ?_
          -- R14.1 126 := more.go:72 assign
          refine WL.v (by first | exact r_assign (v := .bool _) rfl | exact r_assign rfl) rfl rfl rfl ?_
          refine WL.fin hK2369 (fun _ _ h => h) ?_
          refine WC.condF rfl rfl ?_
          refine WC.seq fun K2370 hK2370 => ?_
          -- region 15
          refine WC.region ?_
          -- R15.0 128 := more.go:72 binOp
          refine WL.v (by first | exact r_eql rfl rfl (decide_eq_true (by omega)) | exact r_eql rfl rfl (decide_eq_false (by omega)) | exact r_eql rfl rfl rfl) rfl rfl rfl ?_
          -- R15.1 126 := more.go:72 assign
          refine WL.v (by first | exact r_assign (v := .bool _) rfl | exact r_assign rfl) rfl rfl rfl ?_
          refine WL.fin hK2370 (fun _ _ h => h) ?_
          refine WC.condT rfl rfl ?_
          refine WC.skipF hK2368 (fun _ _ h => h) ?_
          refine WC.condT rfl rfl ?_
          refine WC.seq fun K2371 hK2371 => ?_
          -- region 17 (draws)
          refine WC.quietS st ty_mixed (by kernel_rfl) fun Kq hKq => ?_
          -- R17.0 130 := more.go:73 fieldAddr
          refine QL.v (fun w st => by exact r_field ty_fld36_1 rfl) rfl rfl rfl ?_
          -- R17.1 131 := more.go:73 load
          refine QL.v (fun w st => by exact r_load1 (v := .pointer (some ⟨bB, 0, none⟩)) ty_one29 rfl (by rw [← f5]; exact st.c1 (by decide))) rfl rfl rfl ?_
          -- R17.2 132 := more.go:73 nilCheck
          refine QL.v (fun w st => by exact r_nilCheck rfl) rfl rfl rfl ?_
          -- R17.3 133 := more.go:73 fieldAddr
          refine QL.v (fun w st => by exact r_field ty_fld50_0 rfl) rfl rfl rfl ?_
          -- R17.4 134 := more.go:73 load
          refine QL.v (fun w st => by exact r_load1 (v := .int .i64 (s.mode : Nat)) ty_one40 rfl (c_s (hck2 _ _).B (by decide) rfl st)) rfl rfl rfl ?_
          -- R17.5 135 := more.go:73 binOp
          refine QL.v (fun w st => by first | exact r_eql rfl rfl (decide_eq_true (by omega)) | exact r_eql rfl rfl (decide_eq_false (by omega)) | exact r_eql rfl rfl rfl) rfl rfl rfl ?_
          -- R17.6 136 := more.go:73 move
          refine QL.v (fun w st => by first | exact r_move (v := .bool _) rfl | exact r_move rfl) rfl rfl rfl ?_
          -- R17.7 137 := more.go:73 fieldAddr
          refine QL.no rfl rfl ?_
          -- R17.8 138 := more.go:73 fieldAddr
          refine QL.no rfl rfl ?_
          -- R17.9 139 := more.go:73 load
          refine QL.no rfl rfl ?_
          -- R17.10 140 := more.go:73 fieldAddr
          refine QL.no rfl rfl ?_
          -- R17.11 141 := more.go:73 load
          refine QL.no rfl rfl ?_
          -- R17.12 142 := more.go:73 move
          refine QL.no rfl rfl ?_
          -- R17.13 143 := more.go:73 move
          refine QL.no rfl rfl ?_
          -- R17.14 144 := more.go:73 nilCheck
          refine QL.no rfl rfl ?_
          -- R17.15 145 := more.go:73 fieldAddr
          refine QL.no rfl rfl ?_
          -- R17.16 146 := more.go:73 indexAddr
          refine QL.no rfl rfl ?_
          -- R17.17 147 := more.go:73 indexAddr
          refine QL.no rfl rfl ?_
          -- R17.18 148 := more.go:73 load
          refine QL.no rfl rfl ?_
          -- R17.19 149 := more.go:73 fieldAddr
          refine QL.no rfl rfl ?_
          -- R17.20 150 := more.go:73 load
          refine QL.no rfl rfl ?_
          -- R17.21 151 := more.go:73 move
          refine QL.no rfl rfl ?_
          -- R17.22 152 := more.go:73 move
          refine QL.no rfl rfl ?_
          -- R17.23 153 := more.go:73 nilCheck
          refine QL.no rfl rfl ?_
          -- R17.24 154 := more.go:73 fieldAddr
          refine QL.no rfl rfl ?_
          -- R17.25 155 := more.go:73 indexAddr
          refine QL.no rfl rfl ?_
          -- R17.26 156 := more.go:73 indexAddr
          refine QL.no rfl rfl ?_
          -- R17.27 157 := more.go:73 load
          refine QL.no rfl rfl ?_
          -- R17.28 158 := more.go:73 binOp
          refine QL.no rfl rfl ?_
          -- R17.29 159 := more.go:73 binOp
          refine QL.no rfl rfl ?_
          -- R17.30 160 := more.go:73 pick
          refine QL.v (fun w st => by first | exact r_pickT (v := .bool _) rfl rfl | exact r_pickF (v := .bool _) rfl rfl) rfl rfl rfl ?_
          -- R17.31 7 := more.go:73 assign
          refine QL.v (fun w st => by first | exact r_assign (v := .bool _) rfl | exact r_assign rfl) rfl rfl rfl ?_
          refine QL.wl hKq fun w st => ?_
          refine WL.fin hK2371 (fun _ _ h => h) ?_
          refine WC.seq fun K2372 hK2372 => ?_
          -- region 18
          refine WC.region ?_
          -- R18.0 161 := more.go:74 fieldAddr
          refine WL.v (by exact r_field ty_fld36_3 rfl) rfl rfl rfl ?_
          -- R18.1 162 := more.go:74 fieldAddr
          refine WL.v (by exact r_field ty_fld34_0 rfl) rfl rfl rfl ?_
          -- R18.2 163 := more.go:74 load
          refine WL.v (by exact r_load1 (v := .int .i64 code) ty_one30 rfl (by rw [← f7]; exact st.c1 (by decide))) rfl rfl rfl ?_
          -- R18.3 164 := more.go:74 binOp
          refine WL.v (by first | exact r_neq rfl rfl (decide_eq_true (by omega)) | exact r_neq rfl rfl (decide_eq_false (by omega)) | exact r_neq rfl rfl rfl) rfl rfl rfl ?_
          -- R18.4 165 := more.go:74 move
          refine WL.v (by first | exact r_move (v := .bool _) rfl | exact r_move rfl) rfl rfl rfl ?_
          -- R18.5 166 := more.go:74 fieldAddr
          refine WL.v (by exact r_field ty_fld36_3 rfl) rfl rfl rfl ?_
          -- R18.6 167 := more.go:74 fieldAddr
          refine WL.v (by exact r_field ty_fld34_0 rfl) rfl rfl rfl ?_
          -- R18.7 168 := more.go:74 load
          refine WL.v (by exact r_load1 (v := .int .i64 code) ty_one30 rfl (by rw [← f7]; exact st.c1 (by decide))) rfl rfl rfl ?_
          -- R18.8 169 := more.go:74 binOp
          refine WL.v (by first | exact r_neq rfl rfl (decide_eq_true (by omega)) | exact r_neq rfl rfl (decide_eq_false (by omega)) | exact r_neq rfl rfl rfl) rfl rfl rfl ?_
          -- R18.9 170 := more.go:74 pick
          refine WL.v (by first | exact r_pickT (v := .bool _) rfl rfl | exact r_pickF (v := .bool _) rfl rfl) rfl rfl rfl ?_
          -- R18.10 8 := more.go:74 assign
          refine WL.v (by first | exact r_assign (v := .bool _) rfl | exact r_assign rfl) rfl rfl rfl ?_
          refine WL.fin hK2372 (fun _ _ h => h) ?_
          refine WC.seq fun K2373 hK2373 => ?_
          -- region 19
          refine WC.region ?_
          -- R19.0 171 := more.go:75 move
          refine WL.v (by first | exact r_move (v := .bool _) rfl | exact r_move rfl) rfl rfl rfl ?_
          -- R19.1 172 := more.go:75 move
          refine WL.v (by first | exact r_move (v := .bool _) rfl | exact r_move rfl) rfl rfl rfl ?_
          -- R19.2 173 := more.go:75 move
          refine WL.v (by first | exact r_move (v := .bool _) rfl | exact r_move rfl) rfl rfl rfl ?_
          -- R19.3 174 := more.go:75 fieldAddr
          refine WL.v (by exact r_field ty_fld36_3 rfl) rfl rfl rfl ?_
          -- R19.4 175 := more.go:75 fieldAddr
          refine WL.v (by exact r_field ty_fld34_0 rfl) rfl rfl rfl ?_
          -- R19.5 176 := more.go:75 load
          refine WL.v (by exact r_load1 (v := .int .i64 code) ty_one30 rfl (by rw [← f7]; exact st.c1 (by decide))) rfl rfl rfl ?_
          -- R19.6 177 := more.go:75 binOp
          refine WL.v (by first | exact r_eql rfl rfl (decide_eq_true (by omega)) | exact r_eql rfl rfl (decide_eq_false (by omega)) | exact r_eql rfl rfl rfl) rfl rfl rfl ?_
          -- R19.7 178 := more.go:75 binOp
          refine WL.v (by exact r_bneq ty_bool4 rfl rfl rfl) rfl rfl rfl ?_
          -- R19.8 179 := more.go:75 pick
          refine WL.v (by first | exact r_pickT (v := .bool _) rfl rfl | exact r_pickF (v := .bool _) rfl rfl) rfl rfl rfl ?_
          refine WL.fin hK2373 (fun _ _ h => h) ?_
          refine WC.condF rfl rfl ?_
          refine WC.skipJ hKC (fun _ _ h => h) () (by rw [hcs]; exact st) (by repeat (first | exact sub_nil _ | refine sub_cons rfl rfl ?_))
        · skip
          refine WC.seq fun K2374 hK2374 => ?_
          -- region 6
          refine WC.region ?_
          -- R6.0 60 := more.go:62 fieldAddr
          refine WL.v (by exact r_field ty_fld36_0 rfl) rfl rfl rfl ?_
          -- R6.1 61 := more.go:62 fieldAddr
          refine WL.v (by exact r_field ty_fld28_0 rfl) rfl rfl rfl ?_
          -- R6.2 62 := more.go:62 load
          refine WL.v (by exact r_load1 (v := .int .u8 (o.kind : Nat)) ty_one25 rfl (by rw [← f0]; exact st.c1 (by decide))) rfl rfl rfl ?_
          refine WL.fin hK2374 (fun _ _ h => h) ?_
          refine WC.block ?_
          refine WC.seq fun K2375 hK2375 => ?_
          -- region 7
          refine WC.region ?_
          -- R7.0 64 := more.go:63 binOp
          refine WL.v (by first | exact r_eql rfl rfl (decide_eq_true (by omega)) | exact r_eql rfl rfl (decide_eq_false (by omega)) | exact r_eql rfl rfl rfl) rfl rfl rfl ?_
          -- R7.1 63 := more.go:63 assign
          refine WL.v (by first | exact r_assign (v := .bool _) rfl | exact r_assign rfl) rfl rfl rfl ?_
          refine WL.fin hK2375 (fun _ _ h => h) ?_
          refine WC.condF rfl rfl ?_
          refine WC.seq fun K2376 hK2376 => ?_
          refine WC.seq fun K2377 hK2377 => ?_
          -- region 14
          refine WC.region ?_
          -- R14.0 127 := more.go:72 binOp
          refine WL.v (by first | exact r_eql rfl rfl (decide_eq_true (by omega)) | exact r_eql rfl rfl (decide_eq_false (by omega)) | exact r_eql rfl rfl rfl) rfl rfl rfl ?_
          -- R14.1 126 := more.go:72 assign
          refine WL.v (by first | exact r_assign (v := .bool _) rfl | exact r_assign rfl) rfl rfl rfl ?_
          refine WL.fin hK2377 (fun _ _ h => h) ?_
          refine WC.condF rfl rfl ?_
          refine WC.seq fun K2378 hK2378 => ?_
          -- region 15
          refine WC.region ?_
          -- R15.0 128 := more.go:72 binOp
          refine WL.v (by first | exact r_eql rfl rfl (decide_eq_true (by omega)) | exact r_eql rfl rfl (decide_eq_false (by omega)) | exact r_eql rfl rfl rfl) rfl rfl rfl ?_
          -- R15.1 126 := more.go:72 assign
          refine WL.v (by first | exact r_assign (v := .bool _) rfl | exact r_assign rfl) rfl rfl rfl ?_
          refine WL.fin hK2378 (fun _ _ h => h) ?_
          refine WC.condF rfl rfl ?_
          -- region 16
          refine WC.region ?_
          -- R16.0 129 := more.go:72 binOp
          refine WL.v (by first | exact r_eql rfl rfl (decide_eq_true (by omega)) | exact r_eql rfl rfl (decide_eq_false (by omega)) | exact r_eql rfl rfl rfl) rfl rfl rfl ?_
          -- R16.1 126 := more.go:72 assign
          refine WL.v (by first | exact r_assign (v := .bool _) rfl | exact r_assign rfl) rfl rfl rfl ?_
          refine WL.fin hK2376 (fun _ _ h => h) ?_
          refine WC.condT rfl rfl ?_
          refine WC.seq fun K2379 hK2379 => ?_
          -- region 17 (draws)
          refine WC.quietS st ty_mixed (by kernel_rfl) fun Kq hKq => ?_
          -- R17.0 130 := more.go:73 fieldAddr
          refine QL.v (fun w st => by exact r_field ty_fld36_1 rfl) rfl rfl rfl ?_
          -- R17.1 131 := more.go:73 load
          refine QL.v (fun w st => by exact r_load1 (v := .pointer (some ⟨bB, 0, none⟩)) ty_one29 rfl (by rw [← f5]; exact st.c1 (by decide))) rfl rfl rfl ?_
          -- R17.2 132 := more.go:73 nilCheck
          refine QL.v (fun w st => by exact r_nilCheck rfl) rfl rfl rfl ?_
          -- R17.3 133 := more.go:73 fieldAddr
          refine QL.v (fun w st => by exact r_field ty_fld50_0 rfl) rfl rfl rfl ?_
          -- R17.4 134 := more.go:73 load
          refine QL.v (fun w st => by exact r_load1 (v := .int .i64 (s.mode : Nat)) ty_one40 rfl (c_s (hck2 _ _).B (by decide) rfl st)) rfl rfl rfl ?_
          -- R17.5 135 := more.go:73 binOp
          refine QL.v (fun w st => by first | exact r_eql rfl rfl (decide_eq_true (by omega)) | exact r_eql rfl rfl (decide_eq_false (by omega)) | exact r_eql rfl rfl rfl) rfl rfl rfl ?_
          -- R17.6 136 := more.go:73 move
          refine QL.v (fun w st => by first | exact r_move (v := .bool _) rfl | exact r_move rfl) rfl rfl rfl ?_
          -- R17.7 137 := more.go:73 fieldAddr
          refine QL.no rfl rfl ?_
          -- R17.8 138 := more.go:73 fieldAddr
          refine QL.no rfl rfl ?_
          -- R17.9 139 := more.go:73 load
          refine QL.no rfl rfl ?_
          -- R17.10 140 := more.go:73 fieldAddr
          refine QL.no rfl rfl ?_
          -- R17.11 141 := more.go:73 load
          refine QL.no rfl rfl ?_
          -- R17.12 142 := more.go:73 move
          refine QL.no rfl rfl ?_
          -- R17.13 143 := more.go:73 move
          refine QL.no rfl rfl ?_
          -- R17.14 144 := more.go:73 nilCheck
          refine QL.no rfl rfl ?_
          -- R17.15 145 := more.go:73 fieldAddr
          refine QL.no rfl rfl ?_
          -- R17.16 146 := more.go:73 indexAddr
          refine QL.no rfl rfl ?_
          -- R17.17 147 := more.go:73 indexAddr
          refine QL.no rfl rfl ?_
          -- R17.18 148 := more.go:73 load
          refine QL.no rfl rfl ?_
          -- R17.19 149 := more.go:73 fieldAddr
          refine QL.no rfl rfl ?_
          -- R17.20 150 := more.go:73 load
          refine QL.no rfl rfl ?_
          -- R17.21 151 := more.go:73 move
          refine QL.no rfl rfl ?_
          -- R17.22 152 := more.go:73 move
          refine QL.no rfl rfl ?_
          -- R17.23 153 := more.go:73 nilCheck
          refine QL.no rfl rfl ?_
          -- R17.24 154 := more.go:73 fieldAddr
          refine QL.no rfl rfl ?_
          -- R17.25 155 := more.go:73 indexAddr
          refine QL.no rfl rfl ?_
          -- R17.26 156 := more.go:73 indexAddr
          refine QL.no rfl rfl ?_
          -- R17.27 157 := more.go:73 load
          refine QL.no rfl rfl ?_
          -- R17.28 158 := more.go:73 binOp
          refine QL.no rfl rfl ?_
          -- R17.29 159 := more.go:73 binOp
          refine QL.no rfl rfl ?_
          -- R17.30 160 := more.go:73 pick
          refine QL.v (fun w st => by first | exact r_pickT (v := .bool _) rfl rfl | exact r_pickF (v := .bool _) rfl rfl) rfl rfl rfl ?_
          -- R17.31 7 := more.go:73 assign
          refine QL.v (fun w st => by first | exact r_assign (v := .bool _) rfl | exact r_assign rfl) rfl rfl rfl ?_
          refine QL.wl hKq fun w st => ?_
          refine WL.fin hK2379 (fun _ _ h => h) ?_
          refine WC.seq fun K2380 hK2380 => ?_
          -- region 18
          refine WC.region ?_
          -- R18.0 161 := more.go:74 fieldAddr
          refine WL.v (by exact r_field ty_fld36_3 rfl) rfl rfl rfl ?_
          -- R18.1 162 := more.go:74 fieldAddr
          refine WL.v (by exact r_field ty_fld34_0 rfl) rfl rfl rfl ?_
          -- R18.2 163 := more.go:74 load
          refine WL.v (by exact r_load1 (v := .int .i64 code) ty_one30 rfl (by rw [← f7]; exact st.c1 (by decide))) rfl rfl rfl ?_
          -- R18.3 164 := more.go:74 binOp
          refine WL.v (by first | exact r_neq rfl rfl (decide_eq_true (by omega)) | exact r_neq rfl rfl (decide_eq_false (by omega)) | exact r_neq rfl rfl rfl) rfl rfl rfl ?_
          -- R18.4 165 := more.go:74 move
          refine WL.v (by first | exact r_move (v := .bool _) rfl | exact r_move rfl) rfl rfl rfl ?_
          -- R18.5 166 := more.go:74 fieldAddr
          refine WL.v (by exact r_field ty_fld36_3 rfl) rfl rfl rfl ?_
          -- R18.6 167 := more.go:74 fieldAddr
          refine WL.v (by exact r_field ty_fld34_0 rfl) rfl rfl rfl ?_
          -- R18.7 168 := more.go:74 load
          refine WL.v (by exact r_load1 (v := .int .i64 code) ty_one30 rfl (by rw [← f7]; exact st.c1 (by decide))) rfl rfl rfl ?_
          -- R18.8 169 := more.go:74 binOp
          refine WL.v (by first | exact r_neq rfl rfl (decide_eq_true (by omega)) | exact r_neq rfl rfl (decide_eq_false (by omega)) | exact r_neq rfl rfl rfl) rfl rfl rfl ?_
          -- R18.9 170 := more.go:74 pick
          refine WL.v (by first | exact r_pickT (v := .bool _) rfl rfl | exact r_pickF (v := .bool _) rfl rfl) rfl rfl rfl ?_
          -- R18.10 8 := more.go:74 assign
          refine WL.v (by first | exact r_assign (v := .bool _) rfl | exact r_assign rfl) rfl rfl rfl ?_
          refine WL.fin hK2380 (fun _ _ h => h) ?_
          refine WC.seq fun K2381 hK2381 => ?_
          -- region 19
          refine WC.region ?_
          -- R19.0 171 := more.go:75 move
          refine WL.v (by first | exact r_move (v := .bool _) rfl | exact r_move rfl) rfl rfl rfl ?_
          -- R19.1 172 := more.go:75 move
          refine WL.v (by first | exact r_move (v := .bool _) rfl | exact r_move rfl) rfl rfl rfl ?_
          -- R19.2 173 := more.go:75 move
          refine WL.v (by first | exact r_move (v := .bool _) rfl | exact r_move rfl) rfl rfl rfl ?_
          -- R19.3 174 := more.go:75 fieldAddr
          refine WL.v (by exact r_field ty_fld36_3 rfl) rfl rfl rfl ?_
          -- R19.4 175 := more.go:75 fieldAddr
          refine WL.v (by exact r_field ty_fld34_0 rfl) rfl rfl rfl ?_
          -- R19.5 176 := more.go:75 load
          refine WL.v (by exact r_load1 (v := .int .i64 code) ty_one30 rfl (by rw [← f7]; exact st.c1 (by decide))) rfl rfl rfl ?_
          -- R19.6 177 := more.go:75 binOp
          refine WL.v (by first | exact r_eql rfl rfl (decide_eq_true (by omega)) | exact r_eql rfl rfl (decide_eq_false (by omega)) | exact r_eql rfl rfl rfl) rfl rfl rfl ?_
          -- R19.7 178 := more.go:75 binOp
          refine WL.v (by exact r_bneq ty_bool4 rfl rfl rfl) rfl rfl rfl ?_
          -- R19.8 179 := more.go:75 pick
          refine WL.v (by first | exact r_pickT (v := .bool _) rfl rfl | exact r_pickF (v := .bool _) rfl rfl) rfl rfl rfl ?_
          refine WL.fin hK2381 (fun _ _ h => h) ?_
          refine WC.condF rfl rfl ?_
          refine WC.skipJ hKC (fun _ _ h => h) () (by rw [hcs]; exact st) (by repeat (first | exact sub_nil _ | refine sub_cons rfl rfl ?_))
    by_cases hk9 : o.kind = 9
    · have hcx := hx hk9 hF
      refine WC.seq fun K2382 hK2382 => ?_
      -- region 6
      refine WC.region ?_
      -- R6.0 60 := more.go:62 fieldAddr
      refine WL.v (by exact r_field ty_fld36_0 rfl) rfl rfl rfl ?_
      -- R6.1 61 := more.go:62 fieldAddr
      refine WL.v (by exact r_field ty_fld28_0 rfl) rfl rfl rfl ?_
      -- R6.2 62 := more.go:62 load
      refine WL.v (by exact r_load1 (v := .int .u8 (o.kind : Nat)) ty_one25 rfl (by rw [← f0]; exact st.c1 (by decide))) rfl rfl rfl ?_
      refine WL.fin hK2382 (fun _ _ h => h) ?_
      refine WC.block ?_
      refine WC.seq fun K2383 hK2383 => ?_
      -- region 7
      refine WC.region ?_
      -- R7.0 64 := more.go:63 binOp
      refine WL.v (by first | exact r_eql rfl rfl (decide_eq_true (by omega)) | exact r_eql rfl rfl (decide_eq_false (by omega)) | exact r_eql rfl rfl rfl) rfl rfl rfl ?_
      -- R7.1 63 := more.go:63 assign
      refine WL.v (by first | exact r_assign (v := .bool _) rfl | exact r_assign rfl) rfl rfl rfl ?_
      refine WL.fin hK2383 (fun _ _ h => h) ?_
      refine WC.condF rfl rfl ?_
      refine WC.seq fun K2384 hK2384 => ?_
      refine WC.seq fun K2385 hK2385 => ?_
      -- region 14
      refine WC.region ?_
      -- R14.0 127 := more.go:72 binOp
      refine WL.v (by first | exact r_eql rfl rfl (decide_eq_true (by omega)) | exact r_eql rfl rfl (decide_eq_false (by omega)) | exact r_eql rfl rfl rfl) rfl rfl rfl ?_
      -- R14.1 126 := more.go:72 assign
      refine WL.v (by first | exact r_assign (v := .bool _) rfl | exact r_assign rfl) rfl rfl rfl ?_
      refine WL.fin hK2385 (fun _ _ h => h) ?_
      refine WC.condF rfl rfl ?_
      refine WC.seq fun K2386 hK2386 => ?_
      -- region 15
      refine WC.region ?_
      -- R15.0 128 := more.go:72 binOp
      refine WL.v (by first | exact r_eql rfl rfl (decide_eq_true (by omega)) | exact r_eql rfl rfl (decide_eq_false (by omega)) | exact r_eql rfl rfl rfl) rfl rfl rfl ?_
      -- R15.1 126 := more.go:72 assign
      refine WL.v (by first | exact r_assign (v := .bool _) rfl | exact r_assign rfl) rfl rfl rfl ?_
      refine WL.fin hK2386 (fun _ _ h => h) ?_
      refine WC.condF rfl rfl ?_
      -- region 16
      refine WC.region ?_
      -- R16.0 129 := more.go:72 binOp
      refine WL.v (by first | exact r_eql rfl rfl (decide_eq_true (by omega)) | exact r_eql rfl rfl (decide_eq_false (by omega)) | exact r_eql rfl rfl rfl) rfl rfl rfl ?_
      -- R16.1 126 := more.go:72 assign
      refine WL.v (by first | exact r_assign (v := .bool _) rfl | exact r_assign rfl) rfl rfl rfl ?_
      refine WL.fin hK2384 (fun _ _ h => h) ?_
      refine WC.condF rfl rfl ?_
      refine WC.seq fun K2387 hK2387 => ?_
      -- region 21
      refine WC.region ?_
      -- R21.0 181 := more.go:78 binOp
      refine WL.v (by first | exact r_eql rfl rfl (decide_eq_true (by omega)) | exact r_eql rfl rfl (decide_eq_false (by omega)) | exact r_eql rfl rfl rfl) rfl rfl rfl ?_
      -- R21.1 180 := more.go:78 assign
      refine WL.v (by first | exact r_assign (v := .bool _) rfl | exact r_assign rfl) rfl rfl rfl ?_
      refine WL.fin hK2387 (fun _ _ h => h) ?_
      refine WC.condT rfl rfl ?_
      -- region 22
      refine WC.region ?_
      -- R22.0 182 := more.go:79 move
      refine WL.v (by exact r_move (v := .int .i64 (t : Nat)) (congrArg (Value.int .i64) hT)) rfl rfl rfl ?_
      -- R22.1 183 := more.go:79 build
      refine WL.v (by exact r_buildN (n := 20) (z := fun _ => .int .i64 0) (v := fun _ => .int .i64 0) (ps := []) ty_pl44 ty_zeroN44 rfl fill_nil) rfl rfl rfl ?_
      -- R22.2 184 := more.go:79 indexAddr
      refine WL.v (by exact r_indexA (j := t) ty_ar45 rfl rfl rfl ht16) rfl rfl rfl ?_
      -- R22.3 None := more.go:79 store
      refine WL.storeN (v := fun _ => .int .i64 0) st ty_agg44 rfl rfl (fun _ _ => rfl) (by omega) rfl rfl ?_
      intro w st
      refine WL.join hKC (fun _ _ h => h) () (by rw [hcx]; exact stE (hM_zap ht16) st) (by repeat (first | exact sub_nil _ | refine sub_cons rfl rfl ?_))
    · have hcs := hs hk2 hk9
      refine WC.seq fun K2388 hK2388 => ?_
      -- region 6
      refine WC.region ?_
      -- R6.0 60 := more.go:62 fieldAddr
      refine WL.v (by exact r_field ty_fld36_0 rfl) rfl rfl rfl ?_
      -- R6.1 61 := more.go:62 fieldAddr
      refine WL.v (by exact r_field ty_fld28_0 rfl) rfl rfl rfl ?_
      -- R6.2 62 := more.go:62 load
      refine WL.v (by exact r_load1 (v := .int .u8 (o.kind : Nat)) ty_one25 rfl (by rw [← f0]; exact st.c1 (by decide))) rfl rfl rfl ?_
      refine WL.fin hK2388 (fun _ _ h => h) ?_
      refine WC.block ?_
      refine WC.seq fun K2389 hK2389 => ?_
      -- region 7
      refine WC.region ?_
      -- R7.0 64 := more.go:63 binOp
      refine WL.v (by first | exact r_eql rfl rfl (decide_eq_true (by omega)) | exact r_eql rfl rfl (decide_eq_false (by omega)) | exact r_eql rfl rfl rfl) rfl rfl rfl ?_
      -- R7.1 63 := more.go:63 assign
      refine WL.v (by first | exact r_assign (v := .bool _) rfl | exact r_assign rfl) rfl rfl rfl ?_
      refine WL.fin hK2389 (fun _ _ h => h) ?_
      refine WC.condF rfl rfl ?_
      refine WC.seq fun K2390 hK2390 => ?_
      refine WC.seq fun K2391 hK2391 => ?_
      -- region 14
      refine WC.region ?_
      -- R14.0 127 := more.go:72 binOp
      refine WL.v (by first | exact r_eql rfl rfl (decide_eq_true (by omega)) | exact r_eql rfl rfl (decide_eq_false (by omega)) | exact r_eql rfl rfl rfl) rfl rfl rfl ?_
      -- R14.1 126 := more.go:72 assign
      refine WL.v (by first | exact r_assign (v := .bool _) rfl | exact r_assign rfl) rfl rfl rfl ?_
      refine WL.fin hK2391 (fun _ _ h => h) ?_
      refine WC.condF rfl rfl ?_
      refine WC.seq fun K2392 hK2392 => ?_
      -- region 15
      refine WC.region ?_
      -- R15.0 128 := more.go:72 binOp
      refine WL.v (by first | exact r_eql rfl rfl (decide_eq_true (by omega)) | exact r_eql rfl rfl (decide_eq_false (by omega)) | exact r_eql rfl rfl rfl) rfl rfl rfl ?_
      -- R15.1 126 := more.go:72 assign
      refine WL.v (by first | exact r_assign (v := .bool _) rfl | exact r_assign rfl) rfl rfl rfl ?_
      refine WL.fin hK2392 (fun _ _ h => h) ?_
      refine WC.condF rfl rfl ?_
      -- region 16
      refine WC.region ?_
      -- R16.0 129 := more.go:72 binOp
      refine WL.v (by first | exact r_eql rfl rfl (decide_eq_true (by omega)) | exact r_eql rfl rfl (decide_eq_false (by omega)) | exact r_eql rfl rfl rfl) rfl rfl rfl ?_
      -- R16.1 126 := more.go:72 assign
      refine WL.v (by first | exact r_assign (v := .bool _) rfl | exact r_assign rfl) rfl rfl rfl ?_
      refine WL.fin hK2390 (fun _ _ h => h) ?_
      refine WC.condF rfl rfl ?_
      refine WC.seq fun K2393 hK2393 => ?_
      -- region 21
      refine WC.region ?_
      -- R21.0 181 := more.go:78 binOp
      refine WL.v (by first | exact r_eql rfl rfl (decide_eq_true (by omega)) | exact r_eql rfl rfl (decide_eq_false (by omega)) | exact r_eql rfl rfl rfl) rfl rfl rfl ?_
      -- R21.1 180 := more.go:78 assign
      refine WL.v (by first | exact r_assign (v := .bool _) rfl | exact r_assign rfl) rfl rfl rfl ?_
      refine WL.fin hK2393 (fun _ _ h => h) ?_
      refine WC.condF rfl rfl ?_
      refine WC.skipJ hKC (fun _ _ h => h) () (by rw [hcs]; exact st) (by repeat (first | exact sub_nil _ | refine sub_cons rfl rfl ?_))
  clear st
  rintro _ w st
  refine WC.seq fun K2394 hK2394 => ?_
  -- region 23 (draws)
  refine WC.quietS st ty_mixed (by kernel_rfl) fun Kq hKq => ?_
  -- R23.0 185 := more.go:81 fieldAddr
  refine QL.v (fun w st => by exact r_field ty_fld36_3 rfl) rfl rfl rfl ?_
  -- R23.1 186 := more.go:81 fieldAddr
  refine QL.v (fun w st => by exact r_field ty_fld34_0 rfl) rfl rfl rfl ?_
  -- R23.2 187 := more.go:81 load
  refine QL.v (fun w st => by exact r_load1 (v := .int .i64 code) ty_one30 rfl (by rw [← f7]; exact st.c1 (by decide))) rfl rfl rfl ?_
  -- R23.3 188 := more.go:81 binOp
  refine QL.v (fun w st => by exact r_neq rfl rfl (decide_eq_true q22)) rfl rfl rfl ?_
  -- R23.4 189 := more.go:81 move
  refine QL.v (fun w st => by first | exact r_move (v := .bool _) rfl | exact r_move rfl) rfl rfl rfl ?_
  -- R23.5 190 := more.go:81 fieldAddr
  refine QL.v (fun w st => by exact r_field ty_fld36_2 rfl) rfl rfl rfl ?_
  -- R23.6 191 := more.go:81 load
  refine QL.v (fun w st => by exact r_load1 (v := .pointer (some ⟨bA, 0, none⟩)) ty_one29 rfl (by rw [← f6]; exact st.c1 (by decide))) rfl rfl rfl ?_
  -- R23.7 192 := more.go:81 nilCheck
  refine QL.v (fun w st => by exact r_nilCheck rfl) rfl rfl rfl ?_
  -- R23.8 193 := more.go:81 fieldAddr
  refine QL.v (fun w st => by exact r_field ty_fld50_5 rfl) rfl rfl rfl ?_
  -- R23.9 194 := more.go:81 load
  refine QL.v (fun w st => by exact r_loadN (f := hM s'.claim) ty_agg45 rfl (fun k hk => c_s (hck2 _ _).A (by omega) (by rw [show 0 + 419 + k = 419 + k by omega]; exact sF_c hk) st)) rfl rfl rfl ?_
  -- R23.10 195 := more.go:81 load
  refine QL.v (fun w st => by exact r_loadN (f := hM s'.claim) ty_agg45 rfl (fun k hk => by rw [Nat.zero_add]; exact st.c0 hk)) rfl rfl rfl ?_
  -- R23.11 196 := more.go:81 binOp
  refine QL.v (fun w st => by exact r_aeql (n := 320) (F := hM s'.claim) (G := hM s'.claim) (t := true) eqHA List.length_replicate rfl rfl hM_fit ⟨fun _ _ _ => rfl, fun _ => rfl⟩) rfl rfl rfl ?_
  -- R23.12 197 := more.go:81 pick
  refine QL.v (fun w st => by first | exact r_pickT (v := .bool _) rfl rfl | exact r_pickF (v := .bool _) rfl rfl) rfl rfl rfl ?_
  -- R23.13 2 := more.go:81 assign
  refine QL.v (fun w st => by first | exact r_assign (v := .bool _) rfl | exact r_assign rfl) rfl rfl rfl ?_
  refine QL.wl hKq fun w st => ?_
  refine WL.fin hK2394 (fun _ _ h => h) ?_
  refine WC.ret1 Tryz.results65 (fun _ _ h => h) rfl ?_
  exact ⟨_, rfl, rfl, st.drop.drop⟩
theorem claims_ok_law (a : Option Addr) (sb so n c : Nat) (op : Nat → Kern.Op) (hD : gD w) (hS : Scr w sb so n op) (hn63 : n ≤ 140737488355328) (ha : 0 < n → a = some ⟨sb, so, none⟩) :
    Calls Tryz.prog 22 #[.slice a n c] w (Ret fun v w' => v = .bool true ∧ S0 w [] w') := by
  have st : S0 w [] w := St.init w _
  by_cases hn : n ≤ 65536
  · have hC : CheckOK w 65 #[] op n fun _ LI => LI = [] := by
      refine check_pure fun i hi bB bA qv qv' ov l w' hck st' => ?_
      have hK := run_KI op i
      have hI := run_INV op i
      refine claims1_ok (s := runP op i) (s' := runP op (i + 1)) (fun h => ?_) (fun h2 hf hb => ?_) (fun hk hf hb h14 h15 => acq_claim hk hf hb h14 h15) (fun h9 hf => (exit_claim h9 hf).1) (fun h2 h9 => claim_same hK.b hI h9 (.inl h2)) codes_of.2.2.2.1 (fun t r => ⟨hK.b.claim t r, hK.b.held t r⟩) hck st'
      · have := nf_code (s := runP op i) (o := op i) h
        exact ⟨this.1, this.2, fun h9 => claim_same hK.b hI h9 (.inr h)⟩
      · obtain ⟨d1, d2, d3⟩ := dec_claim (s := runP op i) (o := op i) h2 hf hb
        exact ⟨fun h => ⟨(d1 h).1, after_id (d1 h).2 hK.told⟩, fun h hh => ⟨(d2 h hh).1, after_id (d2 h hh).2 hK.told⟩, d3⟩
    refine enter [.slice a n c] Tryz.func22 rfl Tryz.ntmps22 rfl ?_
    show WC _ _ _ 8 [] [(0, .slice a n c)] _
    refine WC.seq fun K2395 hK2395 => ?_
    -- region 0
    refine WC.region ?_
    -- R0.0 2 := more.go:50 assign
    refine WL.v (by first | exact r_assign (v := .bool _) rfl | exact r_assign rfl) rfl rfl rfl ?_
    refine WL.fin hK2395 (fun _ _ h => h) ?_
    refine WC.seq fun K2396 hK2396 => ?_
    refine WC.seq fun K2397 hK2397 => ?_
    -- region 1
    refine WC.region ?_
    -- R1.0 3 := more.go:51 move
    refine WL.v (by first | exact r_move (v := .slice _ _ _) rfl | exact r_move rfl) rfl rfl rfl ?_
    -- R1.1 4 := more.go:51 call
    refine WL.call (r_call ty_call23 rfl) rfl rfl rfl (zzSmall1_ok a n c st) ?_
    rintro _ w' ⟨he, st⟩
    rw [decide_eq_true hn] at he
    subst he
    -- R1.2 5 := more.go:51 unOp
    refine WL.v (by first | exact r_notT rfl | exact r_notF rfl | exact r_not rfl) rfl rfl rfl ?_
    refine WL.fin hK2397 (fun _ _ h => h) ?_
    refine WC.condF rfl rfl ?_
    refine WC.skipF hK2396 (fun _ _ h => h) ?_
    refine WC.seq fun K2398 hK2398 => ?_
    -- region 3
    refine WC.region ?_
    -- R3.0 6 := more.go:55 move
    refine WL.v (by first | exact r_move (v := .slice _ _ _) rfl | exact r_move rfl) rfl rfl rfl ?_
    -- R3.1 7 := more.go:55 call
    refine WL.call (r_call ty_call24 rfl) rfl rfl rfl (play_ok (LI := []) (l := []) ty_call65 hD hS hn ha hC rfl st) ?_
    rintro _ w'' ⟨rfl, LI', rfl, st⟩
    -- R3.2 2 := more.go:55 assign
    refine WL.v (by first | exact r_assign (v := .bool _) rfl | exact r_assign rfl) rfl rfl rfl ?_
    refine WL.fin hK2398 (fun _ _ h => h) ?_
    refine WC.ret1 Tryz.results22 (fun _ _ h => h) rfl ?_
    exact ⟨_, rfl, rfl, st⟩
  · skip
    refine enter [.slice a n c] Tryz.func22 rfl Tryz.ntmps22 rfl ?_
    show WC _ _ _ 8 [] [(0, .slice a n c)] _
    refine WC.seq fun K2399 hK2399 => ?_
    -- region 0
    refine WC.region ?_
    -- R0.0 2 := more.go:50 assign
    refine WL.v (by first | exact r_assign (v := .bool _) rfl | exact r_assign rfl) rfl rfl rfl ?_
    refine WL.fin hK2399 (fun _ _ h => h) ?_
    refine WC.seq fun K2400 hK2400 => ?_
    refine WC.seq fun K2401 hK2401 => ?_
    -- region 1
    refine WC.region ?_
    -- R1.0 3 := more.go:51 move
    refine WL.v (by first | exact r_move (v := .slice _ _ _) rfl | exact r_move rfl) rfl rfl rfl ?_
    -- R1.1 4 := more.go:51 call
    refine WL.call (r_call ty_call23 rfl) rfl rfl rfl (zzSmall1_ok a n c st) ?_
    rintro _ w' ⟨he, st⟩
    rw [decide_eq_false hn] at he
    subst he
    -- R1.2 5 := more.go:51 unOp
    refine WL.v (by first | exact r_notT rfl | exact r_notF rfl | exact r_not rfl) rfl rfl rfl ?_
    refine WL.fin hK2401 (fun _ _ h => h) ?_
    refine WC.condT rfl rfl ?_
    refine WC.seq fun K2402 hK2402 => ?_
    -- region 2
    refine WC.region ?_
    -- R2.0 2 := more.go:52 assign
    refine WL.v (by first | exact r_assign (v := .bool _) rfl | exact r_assign rfl) rfl rfl rfl ?_
    refine WL.fin hK2402 (fun _ _ h => h) ?_
    refine WC.ret1 Tryz.results22 (fun _ _ h => h) rfl ?_
    exact ⟨_, rfl, rfl, st⟩
end Go.Proofs.Qxb6500834aGreatDoor

