import Derived.Test.Qxb6500834aGreatDoorK74
import Derived.Test.Qxb6500834aGreatDoorK69
import Derived.Test.Qxb6500834aGreatDoorK59
set_option linter.unusedVariables false
set_option linter.unusedSimpArgs false
set_option maxRecDepth 20000
namespace Go.Proofs.Qxb6500834aGreatDoor
open Go.RowKit Go.E1 Go.Kern
theorem ty_call36 : callT Tryz.prog 36 = true := by kernel_rfl
variable {w0 : World} {l X : List HI} {w : World} {s s' s0 : KS} {t r N n : Nat} {qv qv' : Nat → Value}

/-! Law: the banker stays safe. -/
set_option maxHeartbeats 4000000 in
theorem bank1_ok {o : Kern.Op} {bB bA : Nat} {code task : Int} {ov : Value} {ans : List (Nat × Nat × Nat)}  (hD : gD w0) (h16 : ∀ a, a ∈ ans → a.1 < 16) (hbk : BkS s') (hab : s'.mode = 3 → toldP ans 3 = 0) (hct : CT s') (hh : ∀ t r, s'.held t r ≤ 16) (hcl : ∀ t r, s'.claim t r ≤ 16) (hck : CK s s' ans bB bA qv qv' ov l) (st : S0 w0 l w) :
    Calls Tryz.prog 36 #[.agg (stepL o bB bA code task ov).toArray] w (Ret fun v w' => v = .bool true ∧ S0 w0 l w') := by
  obtain ⟨XO, ho, hXO⟩ := hck.a
  obtain ⟨a, c, b, rfl, hc1, hc2, ha, hcell⟩ := ho.form
  obtain ⟨fs, hfs⟩ : ∃ fs : Nat → Value, fs = nth (stepL o bB bA code task (.slice a ans.length c)) := ⟨_, rfl⟩
  have f0 : fs 0 = .int .u8 (o.kind : Nat) := by rw [hfs]; rfl
  have f1 : fs 1 = .int .i64 o.A := by rw [hfs]; rfl
  have f2 : fs 2 = .int .i64 o.B := by rw [hfs]; rfl
  have f3 : fs 3 = .int .i64 o.C := by rw [hfs]; rfl
  have f4 : fs 4 = .int .u64 (o.X : Nat) := by rw [hfs]; rfl
  have f5 : fs 5 = .pointer (some ⟨bB, 0, none⟩) := by rw [hfs]; rfl
  have f6 : fs 6 = .pointer (some ⟨bA, 0, none⟩) := by rw [hfs]; rfl
  have f7 : fs 7 = .int .i64 code := by rw [hfs]; rfl
  have f8 : fs 8 = .int .i64 task := by rw [hfs]; rfl
  have f9 : fs 9 = .slice a ans.length c := by rw [hfs]; rfl
  have hckA := fun (a : HI) => hck.c (a := a)
  by_cases hm : s'.mode = 3
  rotate_left
  · skip
    refine enter [.agg (stepL o bB bA code task (.slice a ans.length c)).toArray] Tryz.func36 rfl Tryz.ntmps36 rfl ?_
    show WC _ _ _ 52 [] [(0, .agg (stepL o bB bA code task (.slice a ans.length c)).toArray)] _
    refine WC.seq fun K2818 hK2818 => ?_
    -- region 0
    refine WC.region ?_
    -- R0.0 1 := graph.go:209 box
    refine WL.box (m := 10) (vs := stepL o bB bA code task (.slice a ans.length c)) st rfl rfl rfl rfl rfl rfl ?_
    intro b1 w st
    have st : S0 w0 ((b1, Row 36 10 fs) :: l) w := by rw [hfs]; exact st
    -- R0.1 2 := graph.go:209 assign
    refine WL.v (by first | exact r_assign (v := .bool _) rfl | exact r_assign rfl) rfl rfl rfl ?_
    refine WL.fin hK2818 (fun _ _ h => h) ?_
    refine WC.seq fun K2819 hK2819 => ?_
    refine WC.seq fun K2820 hK2820 => ?_
    -- region 1
    refine WC.region ?_
    -- R1.0 5 := graph.go:210 fieldAddr
    refine WL.v (by exact r_field ty_fld36_2 rfl) rfl rfl rfl ?_
    -- R1.1 6 := graph.go:210 load
    refine WL.v (by exact r_load1 (v := .pointer (some ⟨bA, 0, none⟩)) ty_one29 rfl (by rw [← f6]; exact st.c0 (by decide))) rfl rfl rfl ?_
    -- R1.2 7 := graph.go:210 nilCheck
    refine WL.v (by exact r_nilCheck rfl) rfl rfl rfl ?_
    -- R1.3 8 := graph.go:210 fieldAddr
    refine WL.v (by exact r_field ty_fld50_0 rfl) rfl rfl rfl ?_
    -- R1.4 9 := graph.go:210 load
    refine WL.v (by exact r_load1 (v := .int .i64 (s'.mode : Nat)) ty_one40 rfl (c_s (hckA _).A (by decide) rfl st)) rfl rfl rfl ?_
    -- R1.5 10 := graph.go:210 binOp
    refine WL.v (by exact r_neq rfl rfl (decide_eq_true (by omega))) rfl rfl rfl ?_
    refine WL.fin hK2820 (fun _ _ h => h) ?_
    refine WC.condT rfl rfl ?_
    refine WC.seq fun K2821 hK2821 => ?_
    -- region 2
    refine WC.region ?_
    -- R2.0 2 := graph.go:211 assign
    refine WL.v (by first | exact r_assign (v := .bool _) rfl | exact r_assign rfl) rfl rfl rfl ?_
    refine WL.fin hK2821 (fun _ _ h => h) ?_
    refine WC.ret1 Tryz.results36 (fun _ _ h => h) rfl ?_
    exact ⟨_, rfl, rfl, st.drop⟩
  have hb := hbk hm
  have hab := hab hm
  refine enter [.agg (stepL o bB bA code task (.slice a ans.length c)).toArray] Tryz.func36 rfl Tryz.ntmps36 rfl ?_
  show WC _ _ _ 52 [] [(0, .agg (stepL o bB bA code task (.slice a ans.length c)).toArray)] _
  refine WC.seq fun K2822 hK2822 => ?_
  -- region 0
  refine WC.region ?_
  -- R0.0 1 := graph.go:209 box
  refine WL.box (m := 10) (vs := stepL o bB bA code task (.slice a ans.length c)) st rfl rfl rfl rfl rfl rfl ?_
  intro b1 w st
  have st : S0 w0 ((b1, Row 36 10 fs) :: l) w := by rw [hfs]; exact st
  -- R0.1 2 := graph.go:209 assign
  refine WL.v (by first | exact r_assign (v := .bool _) rfl | exact r_assign rfl) rfl rfl rfl ?_
  refine WL.fin hK2822 (fun _ _ h => h) ?_
  refine WC.seq fun K2823 hK2823 => ?_
  refine WC.seq fun K2824 hK2824 => ?_
  -- region 1
  refine WC.region ?_
  -- R1.0 5 := graph.go:210 fieldAddr
  refine WL.v (by exact r_field ty_fld36_2 rfl) rfl rfl rfl ?_
  -- R1.1 6 := graph.go:210 load
  refine WL.v (by exact r_load1 (v := .pointer (some ⟨bA, 0, none⟩)) ty_one29 rfl (by rw [← f6]; exact st.c0 (by decide))) rfl rfl rfl ?_
  -- R1.2 7 := graph.go:210 nilCheck
  refine WL.v (by exact r_nilCheck rfl) rfl rfl rfl ?_
  -- R1.3 8 := graph.go:210 fieldAddr
  refine WL.v (by exact r_field ty_fld50_0 rfl) rfl rfl rfl ?_
  -- R1.4 9 := graph.go:210 load
  refine WL.v (by exact r_load1 (v := .int .i64 (s'.mode : Nat)) ty_one40 rfl (c_s (hckA _).A (by decide) rfl st)) rfl rfl rfl ?_
  -- R1.5 10 := graph.go:210 binOp
  refine WL.v (by exact r_neq rfl rfl (decide_eq_false (by omega))) rfl rfl rfl ?_
  refine WL.fin hK2824 (fun _ _ h => h) ?_
  refine WC.condF rfl rfl ?_
  refine WC.skipF hK2823 (fun _ _ h => h) ?_
  refine WC.seq fun K2825 hK2825 => ?_
  refine WC.seq fun K2826 hK2826 => ?_
  -- region 3
  refine WC.region ?_
  -- R3.0 11 := graph.go:213 move
  refine WL.v (by first | exact r_move (v := .int _ _) rfl | exact r_move rfl) rfl rfl rfl ?_
  refine WL.fin hK2826 (fun _ _ h => h) ?_
  refine WC.block ?_
  refine WC.loop (ι := Nat) (fun t => [(1, .pointer (some ⟨b1, 0, none⟩)), (11, .int .i64 (t : Nat))])
    (fun t w' => t ≤ 16 ∧ S0 w0 ((b1, Row 36 10 fs) :: l) w') (fun t => 16 - t) 0 ⟨Nat.zero_le _, st⟩ ?_ ?_
  · skip
    repeat (first | exact sub_nil _ | refine sub_cons rfl rfl ?_)
  clear st
  rintro t w ⟨ht, st⟩ K1 hK1
  by_cases h16' : t = 16
  · skip
    refine WC.seq fun K2827 hK2827 => ?_
    -- region 4
    refine WC.region ?_
    -- R4.0 12 := graph.go:213 binOp
    refine WL.v (by first | exact r_lss rfl rfl (decide_eq_true (by omega)) | exact r_lss rfl rfl (decide_eq_false (by omega)) | exact r_lss rfl rfl rfl) rfl rfl rfl ?_
    refine WL.fin hK2827 (fun _ _ h => h) ?_
    refine WC.seq fun K2828 hK2828 => ?_
    refine WC.condF rfl rfl ?_
    refine WC.exitF hK2825 (fun _ _ h => h) ?_
    refine WC.seq fun K2829 hK2829 => ?_
    -- region 13 (draws)
    refine WC.quietS st ty_mixed (by kernel_rfl) fun Kq hKq => ?_
    -- R13.0 38 := graph.go:220 load
    refine QL.v (fun w st => by exact r_loadL (vs := stepL o bB bA code task (.slice a ans.length c)) ty_agg36 rfl ⟨(st.c0 (by decide)).trans (congrArg some f0), (st.c0 (by decide)).trans (congrArg some f1), (st.c0 (by decide)).trans (congrArg some f2), (st.c0 (by decide)).trans (congrArg some f3), (st.c0 (by decide)).trans (congrArg some f4), (st.c0 (by decide)).trans (congrArg some f5), (st.c0 (by decide)).trans (congrArg some f6), (st.c0 (by decide)).trans (congrArg some f7), (st.c0 (by decide)).trans (congrArg some f8), (st.c0 (by decide)).trans (congrArg some f9), trivial⟩) rfl rfl rfl ?_
    -- R13.1 39 := graph.go:220 call
    refine QL.call (val := .int .u16 (toldP ans 3 : Nat)) (fun w st => r_call ty_call29 rfl) rfl rfl rfl (fun w st => told_ok (o := o) (cd := 3) (hckA _) h16 st) ?_
    -- R13.2 40 := graph.go:220 binOp
    refine QL.v (fun w st => by exact r_eql rfl rfl (decide_eq_true (by rw [hab]; rfl))) rfl rfl rfl ?_
    -- R13.3 41 := graph.go:220 move
    refine QL.v (fun w st => by first | exact r_move (v := .bool _) rfl | exact r_move rfl) rfl rfl rfl ?_
    -- R13.4 42 := graph.go:220 fieldAddr
    refine QL.v (fun w st => by exact r_field ty_fld36_2 rfl) rfl rfl rfl ?_
    -- R13.5 43 := graph.go:220 load
    refine QL.v (fun w st => by exact r_load1 (v := .pointer (some ⟨bA, 0, none⟩)) ty_one29 rfl (by rw [← f6]; exact st.c0 (by decide))) rfl rfl rfl ?_
    -- R13.6 44 := graph.go:220 nilCheck
    refine QL.v (fun w st => by exact r_nilCheck rfl) rfl rfl rfl ?_
    -- R13.7 45 := graph.go:220 fieldAddr
    refine QL.v (fun w st => by exact r_field ty_fld50_4 rfl) rfl rfl rfl ?_
    -- R13.8 46 := graph.go:220 fieldAddr
    refine QL.v (fun w st => by exact r_field ty_fld36_2 rfl) rfl rfl rfl ?_
    -- R13.9 47 := graph.go:220 load
    refine QL.v (fun w st => by exact r_load1 (v := .pointer (some ⟨bA, 0, none⟩)) ty_one29 rfl (by rw [← f6]; exact st.c0 (by decide))) rfl rfl rfl ?_
    -- R13.10 48 := graph.go:220 nilCheck
    refine QL.v (fun w st => by exact r_nilCheck rfl) rfl rfl rfl ?_
    -- R13.11 49 := graph.go:220 fieldAddr
    refine QL.v (fun w st => by exact r_field ty_fld50_5 rfl) rfl rfl rfl ?_
    -- R13.12 50 := graph.go:220 call
    refine QL.call (val := .bool true) (fun w st => r_call ty_call37 rfl) rfl rfl rfl (fun w st => (safeL_ok (held := s'.held) (claim := s'.claim) hD (fun t r => Nat.le_trans (hh t r) (by decide)) (fun t r => Nat.le_trans (hcl t r) (by decide)) hct (matH (hckA _).A) (matC (hckA _).A) st).mono (by rintro _ _ ⟨v, rfl, bb, rfl, hbb, st⟩; exact ⟨_, rfl, by rw [hbb.2 hb.s], st⟩)) ?_
    -- R13.13 51 := graph.go:220 pick
    refine QL.v (fun w st => by first | exact r_pickT (v := .bool _) rfl rfl | exact r_pickF (v := .bool _) rfl rfl) rfl rfl rfl ?_
    -- R13.14 2 := graph.go:220 assign
    refine QL.v (fun w st => by first | exact r_assign (v := .bool _) rfl | exact r_assign rfl) rfl rfl rfl ?_
    refine QL.wl hKq fun w st => ?_
    refine WL.fin hK2829 (fun _ _ h => h) ?_
    refine WC.ret1 Tryz.results36 (fun _ _ h => h) rfl ?_
    exact ⟨_, rfl, rfl, st.drop⟩
  have ht' : t < 16 := by omega
  refine WC.seq fun K2830 hK2830 => ?_
  -- region 4
  refine WC.region ?_
  -- R4.0 12 := graph.go:213 binOp
  refine WL.v (by first | exact r_lss rfl rfl (decide_eq_true (by omega)) | exact r_lss rfl rfl (decide_eq_false (by omega)) | exact r_lss rfl rfl rfl) rfl rfl rfl ?_
  refine WL.fin hK2830 (fun _ _ h => h) ?_
  refine WC.seq fun K2831 hK2831 => ?_
  refine WC.condT rfl rfl ?_
  refine WC.skipF hK2831 (fun _ _ h => h) ?_
  refine WC.seq fun K2832 hK2832 => ?_
  refine WC.block ?_
  refine WC.seq fun K2833 hK2833 => ?_
  -- region 5
  refine WC.region ?_
  -- R5.0 13 := graph.go:213 move
  refine WL.v (by first | exact r_move (v := .int _ _) rfl | exact r_move rfl) rfl rfl rfl ?_
  -- R5.1 3 := graph.go:213 assign
  refine WL.v (by first | exact r_assign (v := .int _ _) rfl | exact r_assign rfl) rfl rfl rfl ?_
  refine WL.fin hK2833 (fun _ _ h => h) ?_
  refine WC.seq fun K2834 hK2834 => ?_
  -- region 6
  refine WC.region ?_
  -- R6.0 14 := graph.go:214 move
  refine WL.v (by first | exact r_move (v := .int _ _) rfl | exact r_move rfl) rfl rfl rfl ?_
  refine WL.fin hK2834 (fun _ _ h => h) ?_
  refine WC.block ?_
  refine WC.loop (ι := Nat) (fun r => [(1, .pointer (some ⟨b1, 0, none⟩)), (11, .int .i64 (t : Nat)), (3, .int .i64 (t : Nat)), (14, .int .i64 (r : Nat))])
    (fun r w' => r ≤ 20 ∧ S0 w0 ((b1, Row 36 10 fs) :: l) w') (fun r => 20 - r) 0 ⟨Nat.zero_le _, st⟩ ?_ ?_
  · skip
    repeat (first | exact sub_nil _ | refine sub_cons rfl rfl ?_)
  clear st
  rintro r w ⟨hr, st⟩ K2 hK2
  by_cases h20 : r = 20
  · skip
    refine WC.seq fun K2835 hK2835 => ?_
    -- region 7
    refine WC.region ?_
    -- R7.0 15 := graph.go:214 binOp
    refine WL.v (by first | exact r_lss rfl rfl (decide_eq_true (by omega)) | exact r_lss rfl rfl (decide_eq_false (by omega)) | exact r_lss rfl rfl rfl) rfl rfl rfl ?_
    refine WL.fin hK2835 (fun _ _ h => h) ?_
    refine WC.seq fun K2836 hK2836 => ?_
    refine WC.condF rfl rfl ?_
    refine WC.exitF hK2832 (fun _ _ h => h) ?_
    -- region 12
    refine WC.region ?_
    -- R12.0 37 := graph.go:213 binOp
    refine WL.v (by first | exact r_add rfl rfl (wi64 (by omega) (by omega)) | exact r_add rfl rfl rfl) rfl rfl rfl ?_
    -- R12.1 11 := graph.go:213 move
    refine WL.v (by first | exact r_move (v := .int _ _) rfl | exact r_move rfl) rfl rfl rfl ?_
    refine WL.next hK1 (fun _ _ h => h) (t + 1) ⟨ht', st⟩ (by omega) (by repeat (first | exact sub_nil _ | refine sub_cons rfl rfl ?_))
  have hr' : r < 20 := by omega
  have hle := hb.h t r ht' hr'
  refine WC.seq fun K2837 hK2837 => ?_
  -- region 7
  refine WC.region ?_
  -- R7.0 15 := graph.go:214 binOp
  refine WL.v (by first | exact r_lss rfl rfl (decide_eq_true (by omega)) | exact r_lss rfl rfl (decide_eq_false (by omega)) | exact r_lss rfl rfl rfl) rfl rfl rfl ?_
  refine WL.fin hK2837 (fun _ _ h => h) ?_
  refine WC.seq fun K2838 hK2838 => ?_
  refine WC.condT rfl rfl ?_
  refine WC.skipF hK2838 (fun _ _ h => h) ?_
  refine WC.seq fun K2839 hK2839 => ?_
  refine WC.block ?_
  refine WC.seq fun K2840 hK2840 => ?_
  -- region 8
  refine WC.region ?_
  -- R8.0 16 := graph.go:214 move
  refine WL.v (by first | exact r_move (v := .int _ _) rfl | exact r_move rfl) rfl rfl rfl ?_
  -- R8.1 4 := graph.go:214 assign
  refine WL.v (by first | exact r_assign (v := .int _ _) rfl | exact r_assign rfl) rfl rfl rfl ?_
  refine WL.fin hK2840 (fun _ _ h => h) ?_
  refine WC.seq fun K2841 hK2841 => ?_
  -- region 9 (draws)
  refine WC.quietS st ty_mixed (by kernel_rfl) fun Kq hKq => ?_
  -- R9.0 17 := graph.go:215 fieldAddr
  refine QL.v (fun w st => by exact r_field ty_fld36_2 rfl) rfl rfl rfl ?_
  -- R9.1 18 := graph.go:215 load
  refine QL.v (fun w st => by exact r_load1 (v := .pointer (some ⟨bA, 0, none⟩)) ty_one29 rfl (by rw [← f6]; exact st.c0 (by decide))) rfl rfl rfl ?_
  -- R9.2 19 := graph.go:215 move
  refine QL.v (fun w st => by first | exact r_move (v := .int _ _) rfl | exact r_move rfl) rfl rfl rfl ?_
  -- R9.3 20 := graph.go:215 move
  refine QL.v (fun w st => by first | exact r_move (v := .int _ _) rfl | exact r_move rfl) rfl rfl rfl ?_
  -- R9.4 21 := graph.go:215 nilCheck
  refine QL.v (fun w st => by exact r_nilCheck rfl) rfl rfl rfl ?_
  -- R9.5 22 := graph.go:215 fieldAddr
  refine QL.v (fun w st => by exact r_field ty_fld50_4 rfl) rfl rfl rfl ?_
  -- R9.6 23 := graph.go:215 indexAddr
  refine QL.v (fun w st => by exact r_indexA (j := t) ty_ar45 rfl rfl rfl ht') rfl rfl rfl ?_
  -- R9.7 24 := graph.go:215 indexAddr
  refine QL.v (fun w st => by exact r_indexA (j := r) ty_ar44 rfl rfl rfl hr') rfl rfl rfl ?_
  -- R9.8 25 := graph.go:215 load
  refine QL.v (fun w st => by exact r_load1 (v := .int .i64 (s'.held t r : Nat)) ty_one3 rfl (c_sH (hckA _).A ht' hr' (by omega) st)) rfl rfl rfl ?_
  -- R9.9 26 := graph.go:215 fieldAddr
  refine QL.v (fun w st => by exact r_field ty_fld36_2 rfl) rfl rfl rfl ?_
  -- R9.10 27 := graph.go:215 load
  refine QL.v (fun w st => by exact r_load1 (v := .pointer (some ⟨bA, 0, none⟩)) ty_one29 rfl (by rw [← f6]; exact st.c0 (by decide))) rfl rfl rfl ?_
  -- R9.11 28 := graph.go:215 move
  refine QL.v (fun w st => by first | exact r_move (v := .int _ _) rfl | exact r_move rfl) rfl rfl rfl ?_
  -- R9.12 29 := graph.go:215 move
  refine QL.v (fun w st => by first | exact r_move (v := .int _ _) rfl | exact r_move rfl) rfl rfl rfl ?_
  -- R9.13 30 := graph.go:215 nilCheck
  refine QL.v (fun w st => by exact r_nilCheck rfl) rfl rfl rfl ?_
  -- R9.14 31 := graph.go:215 fieldAddr
  refine QL.v (fun w st => by exact r_field ty_fld50_5 rfl) rfl rfl rfl ?_
  -- R9.15 32 := graph.go:215 indexAddr
  refine QL.v (fun w st => by exact r_indexA (j := t) ty_ar45 rfl rfl rfl ht') rfl rfl rfl ?_
  -- R9.16 33 := graph.go:215 indexAddr
  refine QL.v (fun w st => by exact r_indexA (j := r) ty_ar44 rfl rfl rfl hr') rfl rfl rfl ?_
  -- R9.17 34 := graph.go:215 load
  refine QL.v (fun w st => by exact r_load1 (v := .int .i64 (s'.claim t r : Nat)) ty_one3 rfl (c_sC (hckA _).A ht' hr' (by omega) st)) rfl rfl rfl ?_
  -- R9.18 35 := graph.go:215 binOp
  refine QL.v (fun w st => by exact r_gtr rfl rfl (decide_eq_false (by omega))) rfl rfl rfl ?_
  refine QL.wl hKq fun w st => ?_
  refine WL.fin hK2841 (fun _ _ h => h) ?_
  refine WC.condF rfl rfl ?_
  refine WC.skipF hK2839 (fun _ _ h => h) ?_
  -- region 11
  refine WC.region ?_
  -- R11.0 36 := graph.go:214 binOp
  refine WL.v (by first | exact r_add rfl rfl (wi64 (by omega) (by omega)) | exact r_add rfl rfl rfl) rfl rfl rfl ?_
  -- R11.1 14 := graph.go:214 move
  refine WL.v (by first | exact r_move (v := .int _ _) rfl | exact r_move rfl) rfl rfl rfl ?_
  refine WL.next hK2 (fun _ _ h => h) (r + 1) ⟨hr', st⟩ (by omega) (by repeat (first | exact sub_nil _ | refine sub_cons rfl rfl ?_))
theorem bank_ok_law (a : Option Addr) (sb so n c : Nat) (op : Nat → Kern.Op) (hD : gD w) (hS : Scr w sb so n op) (hn63 : n ≤ 140737488355328) (ha : 0 < n → a = some ⟨sb, so, none⟩) :
    Calls Tryz.prog 5 #[.slice a n c] w (Ret fun v w' => v = .bool true ∧ S0 w [] w') := by
  have st : S0 w [] w := St.init w _
  by_cases hn : n ≤ 65536
  · have hC : CheckOK w 36 #[] op n fun _ LI => LI = [] := by
      refine check_pure fun i hi bB bA qv qv' ov l w' hck st' => ?_
      have hK := run_KI op i
      have hI := run_INV op i
      have hK' := run_KI op (i + 1)
      have hpn := (pend_step (o := op i) hK.b hI hK.told).1
      have h16 : ∀ a, a ∈ (stepP (runP op i) (op i)).1.told → a.1 < 16 := fun a ha => by
        obtain ⟨k, hk⟩ := List.getElem?_of_mem ha
        exact (PA_at hpn k a hk).1
      refine bank1_ok (s := runP op i) (s' := runP op (i + 1)) hD h16 (run_BkS op (i + 1)) (fun hm => ?_) (run_CT op (i + 1)) hK'.b.held hK'.b.claim hck st'
      have h := (BkS.step (o := op i) hK.b hI (run_BI op i) (run_CT op i) hK.told (run_BkS op i)).2 hm
      refine Nat.eq_of_testBit_eq fun j => ?_
      rw [Nat.zero_testBit]
      exact h j
    refine enter [.slice a n c] Tryz.func5 rfl Tryz.ntmps5 rfl ?_
    show WC _ _ _ 8 [] [(0, .slice a n c)] _
    refine WC.seq fun K2842 hK2842 => ?_
    -- region 0
    refine WC.region ?_
    -- R0.0 2 := graph.go:204 assign
    refine WL.v (by first | exact r_assign (v := .bool _) rfl | exact r_assign rfl) rfl rfl rfl ?_
    refine WL.fin hK2842 (fun _ _ h => h) ?_
    refine WC.seq fun K2843 hK2843 => ?_
    refine WC.seq fun K2844 hK2844 => ?_
    -- region 1
    refine WC.region ?_
    -- R1.0 3 := graph.go:205 move
    refine WL.v (by first | exact r_move (v := .slice _ _ _) rfl | exact r_move rfl) rfl rfl rfl ?_
    -- R1.1 4 := graph.go:205 call
    refine WL.call (r_call ty_call23 rfl) rfl rfl rfl (zzSmall1_ok a n c st) ?_
    rintro _ w' ⟨he, st⟩
    rw [decide_eq_true hn] at he
    subst he
    -- R1.2 5 := graph.go:205 unOp
    refine WL.v (by first | exact r_notT rfl | exact r_notF rfl | exact r_not rfl) rfl rfl rfl ?_
    refine WL.fin hK2844 (fun _ _ h => h) ?_
    refine WC.condF rfl rfl ?_
    refine WC.skipF hK2843 (fun _ _ h => h) ?_
    refine WC.seq fun K2845 hK2845 => ?_
    -- region 3
    refine WC.region ?_
    -- R3.0 6 := graph.go:209 move
    refine WL.v (by first | exact r_move (v := .slice _ _ _) rfl | exact r_move rfl) rfl rfl rfl ?_
    -- R3.1 7 := graph.go:209 call
    refine WL.call (r_call ty_call24 rfl) rfl rfl rfl (play_ok (LI := []) (l := []) ty_call36 hD hS hn ha hC rfl st) ?_
    rintro _ w'' ⟨rfl, LI', rfl, st⟩
    -- R3.2 2 := graph.go:209 assign
    refine WL.v (by first | exact r_assign (v := .bool _) rfl | exact r_assign rfl) rfl rfl rfl ?_
    refine WL.fin hK2845 (fun _ _ h => h) ?_
    refine WC.ret1 Tryz.results5 (fun _ _ h => h) rfl ?_
    exact ⟨_, rfl, rfl, st⟩
  · skip
    refine enter [.slice a n c] Tryz.func5 rfl Tryz.ntmps5 rfl ?_
    show WC _ _ _ 8 [] [(0, .slice a n c)] _
    refine WC.seq fun K2846 hK2846 => ?_
    -- region 0
    refine WC.region ?_
    -- R0.0 2 := graph.go:204 assign
    refine WL.v (by first | exact r_assign (v := .bool _) rfl | exact r_assign rfl) rfl rfl rfl ?_
    refine WL.fin hK2846 (fun _ _ h => h) ?_
    refine WC.seq fun K2847 hK2847 => ?_
    refine WC.seq fun K2848 hK2848 => ?_
    -- region 1
    refine WC.region ?_
    -- R1.0 3 := graph.go:205 move
    refine WL.v (by first | exact r_move (v := .slice _ _ _) rfl | exact r_move rfl) rfl rfl rfl ?_
    -- R1.1 4 := graph.go:205 call
    refine WL.call (r_call ty_call23 rfl) rfl rfl rfl (zzSmall1_ok a n c st) ?_
    rintro _ w' ⟨he, st⟩
    rw [decide_eq_false hn] at he
    subst he
    -- R1.2 5 := graph.go:205 unOp
    refine WL.v (by first | exact r_notT rfl | exact r_notF rfl | exact r_not rfl) rfl rfl rfl ?_
    refine WL.fin hK2848 (fun _ _ h => h) ?_
    refine WC.condT rfl rfl ?_
    refine WC.seq fun K2849 hK2849 => ?_
    -- region 2
    refine WC.region ?_
    -- R2.0 2 := graph.go:206 assign
    refine WL.v (by first | exact r_assign (v := .bool _) rfl | exact r_assign rfl) rfl rfl rfl ?_
    refine WL.fin hK2849 (fun _ _ h => h) ?_
    refine WC.ret1 Tryz.results5 (fun _ _ h => h) rfl ?_
    exact ⟨_, rfl, rfl, st⟩
end Go.Proofs.Qxb6500834aGreatDoor

