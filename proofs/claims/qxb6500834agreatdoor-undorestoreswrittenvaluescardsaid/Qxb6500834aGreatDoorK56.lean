import Derived.Test.Qxb6500834aGreatDoorK53
import Derived.Test.Qxb6500834aGreatDoorK52
set_option linter.unusedVariables false
set_option linter.unusedSimpArgs false
set_option maxRecDepth 20000
namespace Go.Proofs.Qxb6500834aGreatDoor
open Go.RowKit Go.E1 Go.Kern
theorem ty_call29 : callT Tryz.prog 29 = true := by kernel_rfl
theorem ty_call45 : callT Tryz.prog 45 = true := by kernel_rfl
theorem ty_call47 : callT Tryz.prog 47 = true := by kernel_rfl
theorem ty_fld42_5 : fldOff Tryz.prog 42 5 = some 5 := by kernel_rfl
variable {w0 : World} {l X : List HI} {w : World} {s s' s0 : KS} {t r N n : Nat} {qv qv' : Nat → Value}

/-! Law: a full log refuses the write. -/
theorem foldl_zap {α : Type} {z : α} : ∀ (Ts : List Nat) {F : Nat → α} {t : Nat}, (Ts.foldl (fun F v => updN F v z) F) t = if t ∈ Ts then z else F t
  | [], F, t => by simp
  | v :: Ts, F, t => by
    rw [List.foldl_cons, foldl_zap Ts]
    by_cases h : t ∈ Ts
    · simp [h]
    · by_cases e : t = v
      · subst e; simp [h, updN]
      · simp [h, e, updN]
theorem iF_setN {F : Nat → Nat} {i x : Nat} : ∀ k, k < 16 → upd (iF fun t => (F t : Int)) (0 + i * 1) (.int .i64 (x : Nat)) k = iF (fun t => ((updN F i x t : Nat) : Int)) k := fun k hk => by
  rw [iF_set (n := 16) k hk]
  unfold iF updN
  dsimp only
  by_cases h : k = i
  · rw [if_pos h, if_pos h]
  · rw [if_neg h, if_neg h]
def zap0 (F : Nat → Nat) (v : Nat) : Nat → Nat := updN F v 0
set_option maxHeartbeats 4000000 in
theorem full1_ok {o : Kern.Op} {bB bA : Nat} {code task : Int} {ov : Value} {ans : List (Nat × Nat × Nat)} {b0 : Nat}  (hD : gD w0) (h16 : ∀ a, a ∈ ans → a.1 < 16) (h20 : code = 20 → o.kind = 7 ∧ cfB s o = true ∧ (0 ≤ o.B ∧ o.B < 12) ∧ s.held o.A.toNat (8 + o.B.toNat) = 16 ∧ nnF s o.A.toNat = 64) (hw : o.kind = 7 → cfB s o = true → 0 ≤ o.B ∧ o.B < 12 → s.held o.A.toNat (8 + o.B.toNat) = 16 → (nnF s o.A.toNat = 64 → code = 20 ∧ s' = s) ∧ (nnF s o.A.toNat ≠ 64 → code = 0)) (hw0 : code = 0 → o.kind = 7 → cfB s o = true ∧ (0 ≤ o.B ∧ o.B < 12) ∧ s.held o.A.toNat (8 + o.B.toNat) = 16) (h89 : code = 0 → o.kind = 8 ∨ o.kind = 9 → cfB s o = true) (hn : ∀ t, nnF s' t = if (toldP ans 3).testBit t then 0 else wrM s o code t) (h64 : ∀ t, nnF s t ≤ 64) (h64' : ∀ t, nnF s' t ≤ 64) (hck : CK s s' ans bB bA qv qv' ov l) (st : S0 w0 ((b0, Row 76 16 (iF fun t => (((nnF s) t : Nat) : Int))) :: l) w) :
    Calls Tryz.prog 47 #[.agg (stepL o bB bA code task ov).toArray, .pointer (some ⟨b0, 0, none⟩)] w (Ret fun v w' => v = .bool true ∧ S0 w0 ((b0, Row 76 16 (iF fun t => (((nnF s') t : Nat) : Int))) :: l) w') := by
  obtain ⟨XO, ho, hXO⟩ := hck.a
  obtain ⟨a, c, b, rfl, hc1, hc2, ha, hcell⟩ := ho.form
  obtain ⟨fs, hfs⟩ : ∃ fs : Nat → Value, fs = nth (stepL o bB bA code task (.slice a ans.length c)) := ⟨_, rfl⟩
  have f0 : fs 0 = .int .u8 (o.kind : Nat) := by rw [hfs]; rfl
  have f1 : fs 1 = .int .i64 o.A := by rw [hfs]; rfl
  have f2 : fs 2 = .int .i64 o.B := by rw [hfs]; rfl
  have f3 : fs 3 = .int .i64 o.C := by rw [hfs]; rfl
  have f4 : fs 4 = .int .u64 (o.X : Nat) := by rw [hfs]; rfl
  have f5 : fs 5 = .pointer (some ⟨bB, 0, none⟩) := by rw [hfs]; rfl
  have f6 : fs 6 = .pointer (some ⟨bA, 0, none⟩) := by rw [hfs]; rfl
  have f7 : fs 7 = .int .i64 code := by rw [hfs]; rfl
  have f8 : fs 8 = .int .i64 task := by rw [hfs]; rfl
  have f9 : fs 9 = .slice a ans.length c := by rw [hfs]; rfl
  refine enter [.agg (stepL o bB bA code task (.slice a ans.length c)).toArray, .pointer (some ⟨b0, 0, none⟩)] Tryz.func47 rfl Tryz.ntmps47 rfl ?_
  show WC _ _ _ 133 [] [(0, .agg (stepL o bB bA code task (.slice a ans.length c)).toArray), (1, .pointer (some ⟨b0, 0, none⟩))] _
  refine WC.seq fun K1942 hK1942 => ?_
  -- region 0
  refine WC.region ?_
  -- R0.0 2 := law.go:148 box
  refine WL.box (m := 10) (vs := stepL o bB bA code task (.slice a ans.length c)) st rfl rfl rfl rfl rfl rfl ?_
  intro b2 w st
  have st : S0 w0 ((b0, Row 76 16 (iF fun t => (((nnF s) t : Nat) : Int))) :: (b2, Row 36 10 fs) :: l) w := by rw [hfs]; exact st.front1
  -- R0.1 3 := law.go:148 assign
  refine WL.v (by first | exact r_assign (v := .bool _) rfl | exact r_assign rfl) rfl rfl rfl ?_
  refine WL.fin hK1942 (fun _ _ h => h) ?_
  refine WC.seq fun K1943 hK1943 => ?_
  -- region 1
  refine WC.region ?_
  -- R1.0 10 := law.go:149 load
  refine WL.v (by exact r_loadL (vs := stepL o bB bA code task (.slice a ans.length c)) ty_agg36 rfl ⟨(st.c1 (by decide)).trans (congrArg some f0), (st.c1 (by decide)).trans (congrArg some f1), (st.c1 (by decide)).trans (congrArg some f2), (st.c1 (by decide)).trans (congrArg some f3), (st.c1 (by decide)).trans (congrArg some f4), (st.c1 (by decide)).trans (congrArg some f5), (st.c1 (by decide)).trans (congrArg some f6), (st.c1 (by decide)).trans (congrArg some f7), (st.c1 (by decide)).trans (congrArg some f8), (st.c1 (by decide)).trans (congrArg some f9), trivial⟩) rfl rfl rfl ?_
  -- R1.1 11 := law.go:149 call
  refine WL.call (r_call ty_call33 rfl) rfl rfl rfl (callerL_ok (o := o) (List.mem_cons_of_mem _ (List.mem_cons_of_mem _ hck.B)) rfl st) ?_
  rintro _ w ⟨rfl, st⟩
  -- R1.2 9 := law.go:149 move
  refine WL.v (by first | exact r_move (v := .tuple _) rfl | exact r_move rfl) rfl rfl rfl ?_
  -- R1.3 12 := law.go:149 extract
  refine WL.v (by first | exact r_extract (v := .int _ _) rfl rfl | exact r_extract rfl rfl) rfl rfl rfl ?_
  -- R1.4 13 := law.go:149 extract
  refine WL.v (by first | exact r_extract (v := .bool _) rfl rfl | exact r_extract rfl rfl) rfl rfl rfl ?_
  -- R1.5 4 := law.go:149 assign
  refine WL.v (by first | exact r_assign (v := .int _ _) rfl | exact r_assign rfl) rfl rfl rfl ?_
  -- R1.6 5 := law.go:149 assign
  refine WL.v (by first | exact r_assign (v := .bool _) rfl | exact r_assign rfl) rfl rfl rfl ?_
  refine WL.fin hK1943 (fun _ _ h => h) ?_
  obtain ⟨M0, hM0⟩ : ∃ M0 : Nat → Nat, M0 = if code = 0 ∧ o.kind = 7 then updN (nnF s) o.A.toNat (nnF s o.A.toNat + 1) else nnF s := ⟨_, rfl⟩
  have hck2 := fun a => (hck.c (a := (b2, Row 36 10 fs))).c (a := a)
  refine WC.cut (ι := Unit) (fun _ => [(1, .pointer (some ⟨b0, 0, none⟩)), (2, .pointer (some ⟨b2, 0, none⟩)), (4, .int .i64 (cfT o))]) (fun _ w' => code ≠ 20 ∧ S0 w0 ((b0, Row 76 16 (iF fun t => (((M0) t : Nat) : Int))) :: (b2, Row 36 10 fs) :: l) w') ?_ ?_
  rotate_left
  · intro KC hKC
    by_cases hk7 : o.kind = 7
    rotate_left
    · have e : M0 = nnF s := by rw [hM0, if_neg (fun k => hk7 k.2)]
      refine WC.seq fun K1944 hK1944 => ?_
      -- region 2 (draws)
      refine WC.quietS st ty_mixed (by kernel_rfl) fun Kq hKq => ?_
      -- R2.0 14 := law.go:150 fieldAddr
      refine QL.v (fun w st => by exact r_field ty_fld36_0 rfl) rfl rfl rfl ?_
      -- R2.1 15 := law.go:150 fieldAddr
      refine QL.v (fun w st => by exact r_field ty_fld28_0 rfl) rfl rfl rfl ?_
      -- R2.2 16 := law.go:150 load
      refine QL.v (fun w st => by exact r_load1 (v := .int .u8 (o.kind : Nat)) ty_one25 rfl (by rw [← f0]; exact st.c1 (by decide))) rfl rfl rfl ?_
      -- R2.3 17 := law.go:150 binOp
      refine QL.v (fun w st => by first | exact r_eql rfl rfl (decide_eq_true (by omega)) | exact r_eql rfl rfl (decide_eq_false (by omega)) | exact r_eql rfl rfl rfl) rfl rfl rfl ?_
      -- R2.4 18 := law.go:150 move
      refine QL.v (fun w st => by first | exact r_move (v := .bool _) rfl | exact r_move rfl) rfl rfl rfl ?_
      -- R2.5 19 := law.go:150 move
      refine QL.no rfl rfl ?_
      -- R2.6 20 := law.go:150 pick
      refine QL.v (fun w st => by first | exact r_pickT (v := .bool _) rfl rfl | exact r_pickF (v := .bool _) rfl rfl) rfl rfl rfl ?_
      -- R2.7 21 := law.go:150 move
      refine QL.v (fun w st => by first | exact r_move (v := .bool _) rfl | exact r_move rfl) rfl rfl rfl ?_
      -- R2.8 22 := law.go:150 fieldAddr
      refine QL.no rfl rfl ?_
      -- R2.9 23 := law.go:150 fieldAddr
      refine QL.no rfl rfl ?_
      -- R2.10 24 := law.go:150 load
      refine QL.no rfl rfl ?_
      -- R2.11 25 := law.go:150 call
      refine QL.no rfl rfl ?_
      -- R2.12 26 := law.go:150 pick
      refine QL.v (fun w st => by first | exact r_pickT (v := .bool _) rfl rfl | exact r_pickF (v := .bool _) rfl rfl) rfl rfl rfl ?_
      -- R2.13 27 := law.go:150 move
      refine QL.v (fun w st => by first | exact r_move (v := .bool _) rfl | exact r_move rfl) rfl rfl rfl ?_
      -- R2.14 28 := law.go:150 fieldAddr
      refine QL.no rfl rfl ?_
      -- R2.15 29 := law.go:150 load
      refine QL.no rfl rfl ?_
      -- R2.16 30 := law.go:150 move
      refine QL.no rfl rfl ?_
      -- R2.17 31 := law.go:150 fieldAddr
      refine QL.no rfl rfl ?_
      -- R2.18 32 := law.go:150 fieldAddr
      refine QL.no rfl rfl ?_
      -- R2.19 33 := law.go:150 load
      refine QL.no rfl rfl ?_
      -- R2.20 34 := law.go:151 call
      refine QL.no rfl rfl ?_
      -- R2.21 35 := law.go:150 nilCheck
      refine QL.no rfl rfl ?_
      -- R2.22 36 := law.go:150 fieldAddr
      refine QL.no rfl rfl ?_
      -- R2.23 37 := law.go:150 indexAddr
      refine QL.no rfl rfl ?_
      -- R2.24 38 := law.go:150 indexAddr
      refine QL.no rfl rfl ?_
      -- R2.25 39 := law.go:150 load
      refine QL.no rfl rfl ?_
      -- R2.26 40 := law.go:150 binOp
      refine QL.no rfl rfl ?_
      -- R2.27 41 := law.go:150 pick
      refine QL.v (fun w st => by first | exact r_pickT (v := .bool _) rfl rfl | exact r_pickF (v := .bool _) rfl rfl) rfl rfl rfl ?_
      refine QL.wl hKq fun w st => ?_
      refine WL.fin hK1944 (fun _ _ h => h) ?_
      refine WC.condF rfl rfl ?_
      refine WC.skipJ hKC (fun _ _ h => h) () ⟨fun k => hk7 (h20 k).1, by rw [e]; exact st⟩ (by repeat (first | exact sub_nil _ | refine sub_cons rfl rfl ?_))
    rcases hF : cfB s o with _ | _
    · skip
      have e : M0 = nnF s := by rw [hM0, if_neg (fun k => by have := (hw0 k.1 k.2).1; rw [hF] at this; cases this)]
      refine WC.seq fun K1945 hK1945 => ?_
      -- region 2 (draws)
      refine WC.quietS st ty_mixed (by kernel_rfl) fun Kq hKq => ?_
      -- R2.0 14 := law.go:150 fieldAddr
      refine QL.v (fun w st => by exact r_field ty_fld36_0 rfl) rfl rfl rfl ?_
      -- R2.1 15 := law.go:150 fieldAddr
      refine QL.v (fun w st => by exact r_field ty_fld28_0 rfl) rfl rfl rfl ?_
      -- R2.2 16 := law.go:150 load
      refine QL.v (fun w st => by exact r_load1 (v := .int .u8 (o.kind : Nat)) ty_one25 rfl (by rw [← f0]; exact st.c1 (by decide))) rfl rfl rfl ?_
      -- R2.3 17 := law.go:150 binOp
      refine QL.v (fun w st => by first | exact r_eql rfl rfl (decide_eq_true (by omega)) | exact r_eql rfl rfl (decide_eq_false (by omega)) | exact r_eql rfl rfl rfl) rfl rfl rfl ?_
      -- R2.4 18 := law.go:150 move
      refine QL.v (fun w st => by first | exact r_move (v := .bool _) rfl | exact r_move rfl) rfl rfl rfl ?_
      -- R2.5 19 := law.go:150 move
      refine QL.v (fun w st => by exact r_move (v := .bool false) rfl) rfl rfl rfl ?_
      -- R2.6 20 := law.go:150 pick
      refine QL.v (fun w st => by first | exact r_pickT (v := .bool _) rfl rfl | exact r_pickF (v := .bool _) rfl rfl) rfl rfl rfl ?_
      -- R2.7 21 := law.go:150 move
      refine QL.v (fun w st => by first | exact r_move (v := .bool _) rfl | exact r_move rfl) rfl rfl rfl ?_
      -- R2.8 22 := law.go:150 fieldAddr
      refine QL.no rfl rfl ?_
      -- R2.9 23 := law.go:150 fieldAddr
      refine QL.no rfl rfl ?_
      -- R2.10 24 := law.go:150 load
      refine QL.no rfl rfl ?_
      -- R2.11 25 := law.go:150 call
      refine QL.no rfl rfl ?_
      -- R2.12 26 := law.go:150 pick
      refine QL.v (fun w st => by first | exact r_pickT (v := .bool _) rfl rfl | exact r_pickF (v := .bool _) rfl rfl) rfl rfl rfl ?_
      -- R2.13 27 := law.go:150 move
      refine QL.v (fun w st => by first | exact r_move (v := .bool _) rfl | exact r_move rfl) rfl rfl rfl ?_
      -- R2.14 28 := law.go:150 fieldAddr
      refine QL.no rfl rfl ?_
      -- R2.15 29 := law.go:150 load
      refine QL.no rfl rfl ?_
      -- R2.16 30 := law.go:150 move
      refine QL.no rfl rfl ?_
      -- R2.17 31 := law.go:150 fieldAddr
      refine QL.no rfl rfl ?_
      -- R2.18 32 := law.go:150 fieldAddr
      refine QL.no rfl rfl ?_
      -- R2.19 33 := law.go:150 load
      refine QL.no rfl rfl ?_
      -- R2.20 34 := law.go:151 call
      refine QL.no rfl rfl ?_
      -- R2.21 35 := law.go:150 nilCheck
      refine QL.no rfl rfl ?_
      -- R2.22 36 := law.go:150 fieldAddr
      refine QL.no rfl rfl ?_
      -- R2.23 37 := law.go:150 indexAddr
      refine QL.no rfl rfl ?_
      -- R2.24 38 := law.go:150 indexAddr
      refine QL.no rfl rfl ?_
      -- R2.25 39 := law.go:150 load
      refine QL.no rfl rfl ?_
      -- R2.26 40 := law.go:150 binOp
      refine QL.no rfl rfl ?_
      -- R2.27 41 := law.go:150 pick
      refine QL.v (fun w st => by first | exact r_pickT (v := .bool _) rfl rfl | exact r_pickF (v := .bool _) rfl rfl) rfl rfl rfl ?_
      refine QL.wl hKq fun w st => ?_
      refine WL.fin hK1945 (fun _ _ h => h) ?_
      refine WC.condF rfl rfl ?_
      refine WC.skipJ hKC (fun _ _ h => h) () ⟨(fun k => by have := (h20 k).2.1; rw [hF] at this; cases this), by rw [e]; exact st⟩ (by repeat (first | exact sub_nil _ | refine sub_cons rfl rfl ?_))
    · obtain ⟨t, ht16, hAt, hT, hl, hwt⟩ := cf_T hF
      by_cases hb : 0 ≤ o.B ∧ o.B < 12
      rotate_left
      · have e : M0 = nnF s := by rw [hM0, if_neg (fun k => hb (hw0 k.1 k.2).2.1)]
        refine WC.seq fun K1946 hK1946 => ?_
        -- region 2 (draws)
        refine WC.quietS st ty_mixed (by kernel_rfl) fun Kq hKq => ?_
        -- R2.0 14 := law.go:150 fieldAddr
        refine QL.v (fun w st => by exact r_field ty_fld36_0 rfl) rfl rfl rfl ?_
        -- R2.1 15 := law.go:150 fieldAddr
        refine QL.v (fun w st => by exact r_field ty_fld28_0 rfl) rfl rfl rfl ?_
        -- R2.2 16 := law.go:150 load
        refine QL.v (fun w st => by exact r_load1 (v := .int .u8 (o.kind : Nat)) ty_one25 rfl (by rw [← f0]; exact st.c1 (by decide))) rfl rfl rfl ?_
        -- R2.3 17 := law.go:150 binOp
        refine QL.v (fun w st => by first | exact r_eql rfl rfl (decide_eq_true (by omega)) | exact r_eql rfl rfl (decide_eq_false (by omega)) | exact r_eql rfl rfl rfl) rfl rfl rfl ?_
        -- R2.4 18 := law.go:150 move
        refine QL.v (fun w st => by first | exact r_move (v := .bool _) rfl | exact r_move rfl) rfl rfl rfl ?_
        -- R2.5 19 := law.go:150 move
        refine QL.v (fun w st => by exact r_move (v := .bool true) rfl) rfl rfl rfl ?_
        -- R2.6 20 := law.go:150 pick
        refine QL.v (fun w st => by first | exact r_pickT (v := .bool _) rfl rfl | exact r_pickF (v := .bool _) rfl rfl) rfl rfl rfl ?_
        -- R2.7 21 := law.go:150 move
        refine QL.v (fun w st => by first | exact r_move (v := .bool _) rfl | exact r_move rfl) rfl rfl rfl ?_
        -- R2.8 22 := law.go:150 fieldAddr
        refine QL.v (fun w st => by exact r_field ty_fld36_0 rfl) rfl rfl rfl ?_
        -- R2.9 23 := law.go:150 fieldAddr
        refine QL.v (fun w st => by exact r_field ty_fld28_2 rfl) rfl rfl rfl ?_
        -- R2.10 24 := law.go:150 load
        refine QL.v (fun w st => by exact r_load1 (v := .int .i64 o.B) ty_one2 rfl (by rw [← f2]; exact st.c1 (by decide))) rfl rfl rfl ?_
        -- R2.11 25 := law.go:150 call
        refine QL.call (val := .bool false) (fun w st => r_call ty_call34 rfl) rfl rfl rfl (fun w st => (within_ok (v := o.B) (n := 12) st).mono (by rintro _ _ ⟨v, rfl, rfl, st⟩; exact ⟨_, rfl, by unfold wiP; rw [decide_eq_false hb], st⟩)) ?_
        -- R2.12 26 := law.go:150 pick
        refine QL.v (fun w st => by first | exact r_pickT (v := .bool _) rfl rfl | exact r_pickF (v := .bool _) rfl rfl) rfl rfl rfl ?_
        -- R2.13 27 := law.go:150 move
        refine QL.v (fun w st => by first | exact r_move (v := .bool _) rfl | exact r_move rfl) rfl rfl rfl ?_
        -- R2.14 28 := law.go:150 fieldAddr
        refine QL.no rfl rfl ?_
        -- R2.15 29 := law.go:150 load
        refine QL.no rfl rfl ?_
        -- R2.16 30 := law.go:150 move
        refine QL.no rfl rfl ?_
        -- R2.17 31 := law.go:150 fieldAddr
        refine QL.no rfl rfl ?_
        -- R2.18 32 := law.go:150 fieldAddr
        refine QL.no rfl rfl ?_
        -- R2.19 33 := law.go:150 load
        refine QL.no rfl rfl ?_
        -- R2.20 34 := law.go:151 call
        refine QL.no rfl rfl ?_
        -- R2.21 35 := law.go:150 nilCheck
        refine QL.no rfl rfl ?_
        -- R2.22 36 := law.go:150 fieldAddr
        refine QL.no rfl rfl ?_
        -- R2.23 37 := law.go:150 indexAddr
        refine QL.no rfl rfl ?_
        -- R2.24 38 := law.go:150 indexAddr
        refine QL.no rfl rfl ?_
        -- R2.25 39 := law.go:150 load
        refine QL.no rfl rfl ?_
        -- R2.26 40 := law.go:150 binOp
        refine QL.no rfl rfl ?_
        -- R2.27 41 := law.go:150 pick
        refine QL.v (fun w st => by first | exact r_pickT (v := .bool _) rfl rfl | exact r_pickF (v := .bool _) rfl rfl) rfl rfl rfl ?_
        refine QL.wl hKq fun w st => ?_
        refine WL.fin hK1946 (fun _ _ h => h) ?_
        refine WC.condF rfl rfl ?_
        refine WC.skipJ hKC (fun _ _ h => h) () ⟨fun k => hb (h20 k).2.2.1, by rw [e]; exact st⟩ (by repeat (first | exact sub_nil _ | refine sub_cons rfl rfl ?_))
      obtain ⟨c', hc'⟩ : ∃ c : Nat, o.B = c := ⟨o.B.toNat, by omega⟩
      have hA' : o.A.toNat = t := by rw [hAt]; rfl
      have hB' : o.B.toNat = c' := by rw [hc']; rfl
      rw [hA'] at hw hw0 h20 hM0
      rw [hB'] at hw hw0 h20
      by_cases hh : s.held t (8 + c') = 16
      rotate_left
      · have e : M0 = nnF s := by rw [hM0, if_neg (fun k => hh (hw0 k.1 k.2).2.2)]
        refine WC.seq fun K1947 hK1947 => ?_
        -- region 2 (draws)
        refine WC.quietS st ty_mixed (by kernel_rfl) fun Kq hKq => ?_
        -- R2.0 14 := law.go:150 fieldAddr
        refine QL.v (fun w st => by exact r_field ty_fld36_0 rfl) rfl rfl rfl ?_
        -- R2.1 15 := law.go:150 fieldAddr
        refine QL.v (fun w st => by exact r_field ty_fld28_0 rfl) rfl rfl rfl ?_
        -- R2.2 16 := law.go:150 load
        refine QL.v (fun w st => by exact r_load1 (v := .int .u8 (o.kind : Nat)) ty_one25 rfl (by rw [← f0]; exact st.c1 (by decide))) rfl rfl rfl ?_
        -- R2.3 17 := law.go:150 binOp
        refine QL.v (fun w st => by first | exact r_eql rfl rfl (decide_eq_true (by omega)) | exact r_eql rfl rfl (decide_eq_false (by omega)) | exact r_eql rfl rfl rfl) rfl rfl rfl ?_
        -- R2.4 18 := law.go:150 move
        refine QL.v (fun w st => by first | exact r_move (v := .bool _) rfl | exact r_move rfl) rfl rfl rfl ?_
        -- R2.5 19 := law.go:150 move
        refine QL.v (fun w st => by exact r_move (v := .bool true) rfl) rfl rfl rfl ?_
        -- R2.6 20 := law.go:150 pick
        refine QL.v (fun w st => by first | exact r_pickT (v := .bool _) rfl rfl | exact r_pickF (v := .bool _) rfl rfl) rfl rfl rfl ?_
        -- R2.7 21 := law.go:150 move
        refine QL.v (fun w st => by first | exact r_move (v := .bool _) rfl | exact r_move rfl) rfl rfl rfl ?_
        -- R2.8 22 := law.go:150 fieldAddr
        refine QL.v (fun w st => by exact r_field ty_fld36_0 rfl) rfl rfl rfl ?_
        -- R2.9 23 := law.go:150 fieldAddr
        refine QL.v (fun w st => by exact r_field ty_fld28_2 rfl) rfl rfl rfl ?_
        -- R2.10 24 := law.go:150 load
        refine QL.v (fun w st => by exact r_load1 (v := .int .i64 o.B) ty_one2 rfl (by rw [← f2]; exact st.c1 (by decide))) rfl rfl rfl ?_
        -- R2.11 25 := law.go:150 call
        refine QL.call (val := .bool true) (fun w st => r_call ty_call34 rfl) rfl rfl rfl (fun w st => (within_ok (v := o.B) (n := 12) st).mono (by rintro _ _ ⟨v, rfl, rfl, st⟩; exact ⟨_, rfl, by unfold wiP; rw [decide_eq_true hb], st⟩)) ?_
        -- R2.12 26 := law.go:150 pick
        refine QL.v (fun w st => by first | exact r_pickT (v := .bool _) rfl rfl | exact r_pickF (v := .bool _) rfl rfl) rfl rfl rfl ?_
        -- R2.13 27 := law.go:150 move
        refine QL.v (fun w st => by first | exact r_move (v := .bool _) rfl | exact r_move rfl) rfl rfl rfl ?_
        -- R2.14 28 := law.go:150 fieldAddr
        refine QL.v (fun w st => by exact r_field ty_fld36_1 rfl) rfl rfl rfl ?_
        -- R2.15 29 := law.go:150 load
        refine QL.v (fun w st => by exact r_load1 (v := .pointer (some ⟨bB, 0, none⟩)) ty_one29 rfl (by rw [← f5]; exact st.c1 (by decide))) rfl rfl rfl ?_
        -- R2.16 30 := law.go:150 move
        refine QL.v (fun w st => by exact r_move (v := .int .i64 (t : Nat)) (congrArg (Value.int .i64) hT)) rfl rfl rfl ?_
        -- R2.17 31 := law.go:150 fieldAddr
        refine QL.v (fun w st => by exact r_field ty_fld36_0 rfl) rfl rfl rfl ?_
        -- R2.18 32 := law.go:150 fieldAddr
        refine QL.v (fun w st => by exact r_field ty_fld28_2 rfl) rfl rfl rfl ?_
        -- R2.19 33 := law.go:150 load
        refine QL.v (fun w st => by exact r_load1 (v := .int .i64 (c' : Nat)) ty_one2 rfl (by rw [← hc', ← f2]; exact st.c1 (by decide))) rfl rfl rfl ?_
        -- R2.20 34 := law.go:151 call
        refine QL.call (val := .int .i64 ((8 + c' : Nat) : Int)) (fun w st => r_call ty_call48 rfl) rfl rfl rfl (fun w st => lockOf_ok (c := c') (by omega) st) ?_
        -- R2.21 35 := law.go:150 nilCheck
        refine QL.v (fun w st => by exact r_nilCheck rfl) rfl rfl rfl ?_
        -- R2.22 36 := law.go:150 fieldAddr
        refine QL.v (fun w st => by exact r_field ty_fld50_4 rfl) rfl rfl rfl ?_
        -- R2.23 37 := law.go:150 indexAddr
        refine QL.v (fun w st => by exact r_indexA (j := t) ty_ar45 rfl rfl rfl ht16) rfl rfl rfl ?_
        -- R2.24 38 := law.go:150 indexAddr
        refine QL.v (fun w st => by exact r_indexA (j := 8 + c') ty_ar44 rfl rfl rfl (by omega)) rfl rfl rfl ?_
        -- R2.25 39 := law.go:150 load
        refine QL.v (fun w st => by exact r_load1 (v := .int .i64 (s.held t (8 + c') : Nat)) ty_one3 rfl (c_sH (hck2 _).B ht16 (by omega) (by omega) st)) rfl rfl rfl ?_
        -- R2.26 40 := law.go:150 binOp
        refine QL.v (fun w st => by exact r_eql rfl rfl (decide_eq_false (by omega))) rfl rfl rfl ?_
        -- R2.27 41 := law.go:150 pick
        refine QL.v (fun w st => by first | exact r_pickT (v := .bool _) rfl rfl | exact r_pickF (v := .bool _) rfl rfl) rfl rfl rfl ?_
        refine QL.wl hKq fun w st => ?_
        refine WL.fin hK1947 (fun _ _ h => h) ?_
        refine WC.condF rfl rfl ?_
        refine WC.skipJ hKC (fun _ _ h => h) () ⟨fun k => hh (h20 k).2.2.2.1, by rw [e]; exact st⟩ (by repeat (first | exact sub_nil _ | refine sub_cons rfl rfl ?_))
      have hw := hw hk7 hF hb hh
      by_cases hn64 : nnF s t = 64
      · obtain ⟨hc20, hss⟩ := hw.1 hn64
        have hss := hss.symm
        subst hss
        refine WC.seq fun K1948 hK1948 => ?_
        -- region 2 (draws)
        refine WC.quietS st ty_mixed (by kernel_rfl) fun Kq hKq => ?_
        -- R2.0 14 := law.go:150 fieldAddr
        refine QL.v (fun w st => by exact r_field ty_fld36_0 rfl) rfl rfl rfl ?_
        -- R2.1 15 := law.go:150 fieldAddr
        refine QL.v (fun w st => by exact r_field ty_fld28_0 rfl) rfl rfl rfl ?_
        -- R2.2 16 := law.go:150 load
        refine QL.v (fun w st => by exact r_load1 (v := .int .u8 (o.kind : Nat)) ty_one25 rfl (by rw [← f0]; exact st.c1 (by decide))) rfl rfl rfl ?_
        -- R2.3 17 := law.go:150 binOp
        refine QL.v (fun w st => by first | exact r_eql rfl rfl (decide_eq_true (by omega)) | exact r_eql rfl rfl (decide_eq_false (by omega)) | exact r_eql rfl rfl rfl) rfl rfl rfl ?_
        -- R2.4 18 := law.go:150 move
        refine QL.v (fun w st => by first | exact r_move (v := .bool _) rfl | exact r_move rfl) rfl rfl rfl ?_
        -- R2.5 19 := law.go:150 move
        refine QL.v (fun w st => by exact r_move (v := .bool true) rfl) rfl rfl rfl ?_
        -- R2.6 20 := law.go:150 pick
        refine QL.v (fun w st => by first | exact r_pickT (v := .bool _) rfl rfl | exact r_pickF (v := .bool _) rfl rfl) rfl rfl rfl ?_
        -- R2.7 21 := law.go:150 move
        refine QL.v (fun w st => by first | exact r_move (v := .bool _) rfl | exact r_move rfl) rfl rfl rfl ?_
        -- R2.8 22 := law.go:150 fieldAddr
        refine QL.v (fun w st => by exact r_field ty_fld36_0 rfl) rfl rfl rfl ?_
        -- R2.9 23 := law.go:150 fieldAddr
        refine QL.v (fun w st => by exact r_field ty_fld28_2 rfl) rfl rfl rfl ?_
        -- R2.10 24 := law.go:150 load
        refine QL.v (fun w st => by exact r_load1 (v := .int .i64 o.B) ty_one2 rfl (by rw [← f2]; exact st.c1 (by decide))) rfl rfl rfl ?_
        -- R2.11 25 := law.go:150 call
        refine QL.call (val := .bool true) (fun w st => r_call ty_call34 rfl) rfl rfl rfl (fun w st => (within_ok (v := o.B) (n := 12) st).mono (by rintro _ _ ⟨v, rfl, rfl, st⟩; exact ⟨_, rfl, by unfold wiP; rw [decide_eq_true hb], st⟩)) ?_
        -- R2.12 26 := law.go:150 pick
        refine QL.v (fun w st => by first | exact r_pickT (v := .bool _) rfl rfl | exact r_pickF (v := .bool _) rfl rfl) rfl rfl rfl ?_
        -- R2.13 27 := law.go:150 move
        refine QL.v (fun w st => by first | exact r_move (v := .bool _) rfl | exact r_move rfl) rfl rfl rfl ?_
        -- R2.14 28 := law.go:150 fieldAddr
        refine QL.v (fun w st => by exact r_field ty_fld36_1 rfl) rfl rfl rfl ?_
        -- R2.15 29 := law.go:150 load
        refine QL.v (fun w st => by exact r_load1 (v := .pointer (some ⟨bB, 0, none⟩)) ty_one29 rfl (by rw [← f5]; exact st.c1 (by decide))) rfl rfl rfl ?_
        -- R2.16 30 := law.go:150 move
        refine QL.v (fun w st => by exact r_move (v := .int .i64 (t : Nat)) (congrArg (Value.int .i64) hT)) rfl rfl rfl ?_
        -- R2.17 31 := law.go:150 fieldAddr
        refine QL.v (fun w st => by exact r_field ty_fld36_0 rfl) rfl rfl rfl ?_
        -- R2.18 32 := law.go:150 fieldAddr
        refine QL.v (fun w st => by exact r_field ty_fld28_2 rfl) rfl rfl rfl ?_
        -- R2.19 33 := law.go:150 load
        refine QL.v (fun w st => by exact r_load1 (v := .int .i64 (c' : Nat)) ty_one2 rfl (by rw [← hc', ← f2]; exact st.c1 (by decide))) rfl rfl rfl ?_
        -- R2.20 34 := law.go:151 call
        refine QL.call (val := .int .i64 ((8 + c' : Nat) : Int)) (fun w st => r_call ty_call48 rfl) rfl rfl rfl (fun w st => lockOf_ok (c := c') (by omega) st) ?_
        -- R2.21 35 := law.go:150 nilCheck
        refine QL.v (fun w st => by exact r_nilCheck rfl) rfl rfl rfl ?_
        -- R2.22 36 := law.go:150 fieldAddr
        refine QL.v (fun w st => by exact r_field ty_fld50_4 rfl) rfl rfl rfl ?_
        -- R2.23 37 := law.go:150 indexAddr
        refine QL.v (fun w st => by exact r_indexA (j := t) ty_ar45 rfl rfl rfl ht16) rfl rfl rfl ?_
        -- R2.24 38 := law.go:150 indexAddr
        refine QL.v (fun w st => by exact r_indexA (j := 8 + c') ty_ar44 rfl rfl rfl (by omega)) rfl rfl rfl ?_
        -- R2.25 39 := law.go:150 load
        refine QL.v (fun w st => by exact r_load1 (v := .int .i64 (s.held t (8 + c') : Nat)) ty_one3 rfl (c_sH (hck2 _).B ht16 (by omega) (by omega) st)) rfl rfl rfl ?_
        -- R2.26 40 := law.go:150 binOp
        refine QL.v (fun w st => by exact r_eql rfl rfl (decide_eq_true (by omega))) rfl rfl rfl ?_
        -- R2.27 41 := law.go:150 pick
        refine QL.v (fun w st => by first | exact r_pickT (v := .bool _) rfl rfl | exact r_pickF (v := .bool _) rfl rfl) rfl rfl rfl ?_
        refine QL.wl hKq fun w st => ?_
        refine WL.fin hK1948 (fun _ _ h => h) ?_
        refine WC.condT rfl rfl ?_
        refine WC.seq fun K1949 hK1949 => ?_
        refine WC.seq fun K1950 hK1950 => ?_
        -- region 3
        refine WC.region ?_
        -- R3.0 42 := law.go:152 move
        refine WL.v (by exact r_move (v := .int .i64 (t : Nat)) (congrArg (Value.int .i64) hT)) rfl rfl rfl ?_
        -- R3.1 43 := law.go:152 indexAddr
        refine WL.v (by exact r_indexA (j := t) ty_ar76 rfl rfl rfl ht16) rfl rfl rfl ?_
        -- R3.2 44 := law.go:152 load
        refine WL.v (by exact r_load1 (v := .int .i64 (nnF s t : Nat)) ty_one3 rfl (c_iF (F := fun t => (nnF s t : Int)) List.mem_cons_self ht16 st)) rfl rfl rfl ?_
        -- R3.3 45 := law.go:152 binOp
        refine WL.v (by first | exact r_eql rfl rfl (decide_eq_true (by omega)) | exact r_eql rfl rfl (decide_eq_false (by omega)) | exact r_eql rfl rfl rfl) rfl rfl rfl ?_
        refine WL.fin hK1950 (fun _ _ h => h) ?_
        refine WC.condT rfl rfl ?_
        refine WC.seq fun K1951 hK1951 => ?_
        -- region 4
        refine WC.region ?_
        -- R4.0 46 := law.go:153 fieldAddr
        refine WL.v (by exact r_field ty_fld36_3 rfl) rfl rfl rfl ?_
        -- R4.1 47 := law.go:153 fieldAddr
        refine WL.v (by exact r_field ty_fld34_0 rfl) rfl rfl rfl ?_
        -- R4.2 48 := law.go:153 load
        refine WL.v (by exact r_load1 (v := .int .i64 code) ty_one30 rfl (by rw [← f7]; exact st.c1 (by decide))) rfl rfl rfl ?_
        -- R4.3 49 := law.go:153 binOp
        refine WL.v (by first | exact r_eql rfl rfl (decide_eq_true (by omega)) | exact r_eql rfl rfl (decide_eq_false (by omega)) | exact r_eql rfl rfl rfl) rfl rfl rfl ?_
        -- R4.4 50 := law.go:153 move
        refine WL.v (by first | exact r_move (v := .bool _) rfl | exact r_move rfl) rfl rfl rfl ?_
        -- R4.5 51 := law.go:153 fieldAddr
        refine WL.v (by exact r_field ty_fld36_2 rfl) rfl rfl rfl ?_
        -- R4.6 52 := law.go:153 load
        refine WL.v (by exact r_load1 (v := .pointer (some ⟨bA, 0, none⟩)) ty_one29 rfl (by rw [← f6]; exact st.c1 (by decide))) rfl rfl rfl ?_
        -- R4.7 53 := law.go:153 fieldAddr
        refine WL.v (by exact r_field ty_fld36_1 rfl) rfl rfl rfl ?_
        -- R4.8 54 := law.go:153 load
        refine WL.v (by exact r_load1 (v := .pointer (some ⟨bB, 0, none⟩)) ty_one29 rfl (by rw [← f5]; exact st.c1 (by decide))) rfl rfl rfl ?_
        -- R4.9 55 := law.go:153 call
        refine WL.call (r_call ty_call45 rfl) rfl rfl rfl (stateEq_ok (hck2 _).A (hck2 _).B (hck2 _).q' (hck2 _).q st) ?_
        rintro _ w ⟨rfl, st⟩
        -- R4.10 56 := law.go:153 pick
        refine WL.v (by first | exact r_pickT (v := .bool _) rfl rfl | exact r_pickF (v := .bool _) rfl rfl) rfl rfl rfl ?_
        -- R4.11 3 := law.go:153 assign
        refine WL.v (by first | exact r_assign (v := .bool _) rfl | exact r_assign rfl) rfl rfl rfl ?_
        refine WL.fin hK1951 (fun _ _ h => h) ?_
        refine WC.ret1 Tryz.results47 (fun _ _ h => h) rfl ?_
        exact ⟨_, rfl, rfl, st.drop1⟩
      have hc0 := hw.2 hn64
      have h64t := h64 t
      refine WC.seq fun K1952 hK1952 => ?_
      -- region 2 (draws)
      refine WC.quietS st ty_mixed (by kernel_rfl) fun Kq hKq => ?_
      -- R2.0 14 := law.go:150 fieldAddr
      refine QL.v (fun w st => by exact r_field ty_fld36_0 rfl) rfl rfl rfl ?_
      -- R2.1 15 := law.go:150 fieldAddr
      refine QL.v (fun w st => by exact r_field ty_fld28_0 rfl) rfl rfl rfl ?_
      -- R2.2 16 := law.go:150 load
      refine QL.v (fun w st => by exact r_load1 (v := .int .u8 (o.kind : Nat)) ty_one25 rfl (by rw [← f0]; exact st.c1 (by decide))) rfl rfl rfl ?_
      -- R2.3 17 := law.go:150 binOp
      refine QL.v (fun w st => by first | exact r_eql rfl rfl (decide_eq_true (by omega)) | exact r_eql rfl rfl (decide_eq_false (by omega)) | exact r_eql rfl rfl rfl) rfl rfl rfl ?_
      -- R2.4 18 := law.go:150 move
      refine QL.v (fun w st => by first | exact r_move (v := .bool _) rfl | exact r_move rfl) rfl rfl rfl ?_
      -- R2.5 19 := law.go:150 move
      refine QL.v (fun w st => by exact r_move (v := .bool true) rfl) rfl rfl rfl ?_
      -- R2.6 20 := law.go:150 pick
      refine QL.v (fun w st => by first | exact r_pickT (v := .bool _) rfl rfl | exact r_pickF (v := .bool _) rfl rfl) rfl rfl rfl ?_
      -- R2.7 21 := law.go:150 move
      refine QL.v (fun w st => by first | exact r_move (v := .bool _) rfl | exact r_move rfl) rfl rfl rfl ?_
      -- R2.8 22 := law.go:150 fieldAddr
      refine QL.v (fun w st => by exact r_field ty_fld36_0 rfl) rfl rfl rfl ?_
      -- R2.9 23 := law.go:150 fieldAddr
      refine QL.v (fun w st => by exact r_field ty_fld28_2 rfl) rfl rfl rfl ?_
      -- R2.10 24 := law.go:150 load
      refine QL.v (fun w st => by exact r_load1 (v := .int .i64 o.B) ty_one2 rfl (by rw [← f2]; exact st.c1 (by decide))) rfl rfl rfl ?_
      -- R2.11 25 := law.go:150 call
      refine QL.call (val := .bool true) (fun w st => r_call ty_call34 rfl) rfl rfl rfl (fun w st => (within_ok (v := o.B) (n := 12) st).mono (by rintro _ _ ⟨v, rfl, rfl, st⟩; exact ⟨_, rfl, by unfold wiP; rw [decide_eq_true hb], st⟩)) ?_
      -- R2.12 26 := law.go:150 pick
      refine QL.v (fun w st => by first | exact r_pickT (v := .bool _) rfl rfl | exact r_pickF (v := .bool _) rfl rfl) rfl rfl rfl ?_
      -- R2.13 27 := law.go:150 move
      refine QL.v (fun w st => by first | exact r_move (v := .bool _) rfl | exact r_move rfl) rfl rfl rfl ?_
      -- R2.14 28 := law.go:150 fieldAddr
      refine QL.v (fun w st => by exact r_field ty_fld36_1 rfl) rfl rfl rfl ?_
      -- R2.15 29 := law.go:150 load
      refine QL.v (fun w st => by exact r_load1 (v := .pointer (some ⟨bB, 0, none⟩)) ty_one29 rfl (by rw [← f5]; exact st.c1 (by decide))) rfl rfl rfl ?_
      -- R2.16 30 := law.go:150 move
      refine QL.v (fun w st => by exact r_move (v := .int .i64 (t : Nat)) (congrArg (Value.int .i64) hT)) rfl rfl rfl ?_
      -- R2.17 31 := law.go:150 fieldAddr
      refine QL.v (fun w st => by exact r_field ty_fld36_0 rfl) rfl rfl rfl ?_
      -- R2.18 32 := law.go:150 fieldAddr
      refine QL.v (fun w st => by exact r_field ty_fld28_2 rfl) rfl rfl rfl ?_
      -- R2.19 33 := law.go:150 load
      refine QL.v (fun w st => by exact r_load1 (v := .int .i64 (c' : Nat)) ty_one2 rfl (by rw [← hc', ← f2]; exact st.c1 (by decide))) rfl rfl rfl ?_
      -- R2.20 34 := law.go:151 call
      refine QL.call (val := .int .i64 ((8 + c' : Nat) : Int)) (fun w st => r_call ty_call48 rfl) rfl rfl rfl (fun w st => lockOf_ok (c := c') (by omega) st) ?_
      -- R2.21 35 := law.go:150 nilCheck
      refine QL.v (fun w st => by exact r_nilCheck rfl) rfl rfl rfl ?_
      -- R2.22 36 := law.go:150 fieldAddr
      refine QL.v (fun w st => by exact r_field ty_fld50_4 rfl) rfl rfl rfl ?_
      -- R2.23 37 := law.go:150 indexAddr
      refine QL.v (fun w st => by exact r_indexA (j := t) ty_ar45 rfl rfl rfl ht16) rfl rfl rfl ?_
      -- R2.24 38 := law.go:150 indexAddr
      refine QL.v (fun w st => by exact r_indexA (j := 8 + c') ty_ar44 rfl rfl rfl (by omega)) rfl rfl rfl ?_
      -- R2.25 39 := law.go:150 load
      refine QL.v (fun w st => by exact r_load1 (v := .int .i64 (s.held t (8 + c') : Nat)) ty_one3 rfl (c_sH (hck2 _).B ht16 (by omega) (by omega) st)) rfl rfl rfl ?_
      -- R2.26 40 := law.go:150 binOp
      refine QL.v (fun w st => by exact r_eql rfl rfl (decide_eq_true (by omega))) rfl rfl rfl ?_
      -- R2.27 41 := law.go:150 pick
      refine QL.v (fun w st => by first | exact r_pickT (v := .bool _) rfl rfl | exact r_pickF (v := .bool _) rfl rfl) rfl rfl rfl ?_
      refine QL.wl hKq fun w st => ?_
      refine WL.fin hK1952 (fun _ _ h => h) ?_
      refine WC.condT rfl rfl ?_
      refine WC.seq fun K1953 hK1953 => ?_
      refine WC.seq fun K1954 hK1954 => ?_
      -- region 3
      refine WC.region ?_
      -- R3.0 42 := law.go:152 move
      refine WL.v (by exact r_move (v := .int .i64 (t : Nat)) (congrArg (Value.int .i64) hT)) rfl rfl rfl ?_
      -- R3.1 43 := law.go:152 indexAddr
      refine WL.v (by exact r_indexA (j := t) ty_ar76 rfl rfl rfl ht16) rfl rfl rfl ?_
      -- R3.2 44 := law.go:152 load
      refine WL.v (by exact r_load1 (v := .int .i64 (nnF s t : Nat)) ty_one3 rfl (c_iF (F := fun t => (nnF s t : Int)) List.mem_cons_self ht16 st)) rfl rfl rfl ?_
      -- R3.3 45 := law.go:152 binOp
      refine WL.v (by first | exact r_eql rfl rfl (decide_eq_true (by omega)) | exact r_eql rfl rfl (decide_eq_false (by omega)) | exact r_eql rfl rfl rfl) rfl rfl rfl ?_
      refine WL.fin hK1954 (fun _ _ h => h) ?_
      refine WC.condF rfl rfl ?_
      refine WC.skipF hK1953 (fun _ _ h => h) ?_
      refine WC.seq fun K1955 hK1955 => ?_
      refine WC.seq fun K1956 hK1956 => ?_
      -- region 5
      refine WC.region ?_
      -- R5.0 57 := law.go:155 fieldAddr
      refine WL.v (by exact r_field ty_fld36_3 rfl) rfl rfl rfl ?_
      -- R5.1 58 := law.go:155 fieldAddr
      refine WL.v (by exact r_field ty_fld34_0 rfl) rfl rfl rfl ?_
      -- R5.2 59 := law.go:155 load
      refine WL.v (by exact r_load1 (v := .int .i64 code) ty_one30 rfl (by rw [← f7]; exact st.c1 (by decide))) rfl rfl rfl ?_
      -- R5.3 60 := law.go:155 binOp
      refine WL.v (by first | exact r_neq rfl rfl (decide_eq_true (by omega)) | exact r_neq rfl rfl (decide_eq_false (by omega)) | exact r_neq rfl rfl rfl) rfl rfl rfl ?_
      refine WL.fin hK1956 (fun _ _ h => h) ?_
      refine WC.condF rfl rfl ?_
      refine WC.skipF hK1955 (fun _ _ h => h) ?_
      -- region 7
      refine WC.region ?_
      -- R7.0 61 := law.go:158 move
      refine WL.v (by exact r_move (v := .int .i64 (t : Nat)) (congrArg (Value.int .i64) hT)) rfl rfl rfl ?_
      -- R7.1 62 := law.go:158 indexAddr
      refine WL.v (by exact r_indexA (j := t) ty_ar76 rfl rfl rfl ht16) rfl rfl rfl ?_
      -- R7.2 63 := law.go:158 load
      refine WL.v (by exact r_load1 (v := .int .i64 (nnF s t : Nat)) ty_one3 rfl (c_iF (F := fun t => (nnF s t : Int)) List.mem_cons_self ht16 st)) rfl rfl rfl ?_
      -- R7.3 64 := law.go:158 binOp
      refine WL.v (by exact r_add (r := ((nnF s t + 1 : Nat) : Int)) rfl rfl ((wi64 (by omega) (by omega)).trans (by omega))) rfl rfl rfl ?_
      -- R7.4 65 := law.go:158 indexAddr
      refine WL.v (by exact r_indexA (j := t) ty_ar76 rfl rfl rfl ht16) rfl rfl rfl ?_
      -- R7.5 None := law.go:158 store
      first | refine WL.store (v := .int _ _) st ty_one3 rfl rfl rfl (by first | decide | omega) rfl rfl ?_ | refine WL.store (v := _) st ty_one3 rfl rfl rfl (by first | decide | omega) rfl rfl ?_ | refine WL.store (v := .int _ _) st.front1 ty_one3 rfl rfl rfl (by first | decide | omega) rfl rfl ?_ | refine WL.store (v := _) st.front1 ty_one3 rfl rfl rfl (by first | decide | omega) rfl rfl ?_ | refine WL.store (v := .int _ _) st.front2 ty_one3 rfl rfl rfl (by first | decide | omega) rfl rfl ?_ | refine WL.store (v := _) st.front2 ty_one3 rfl rfl rfl (by first | decide | omega) rfl rfl ?_ | refine WL.store (v := .int _ _) st.front3 ty_one3 rfl rfl rfl (by first | decide | omega) rfl rfl ?_ | refine WL.store (v := _) st.front3 ty_one3 rfl rfl rfl (by first | decide | omega) rfl rfl ?_ | refine WL.store (v := .int _ _) st.front4 ty_one3 rfl rfl rfl (by first | decide | omega) rfl rfl ?_ | refine WL.store (v := _) st.front4 ty_one3 rfl rfl rfl (by first | decide | omega) rfl rfl ?_ | refine WL.store (v := .int _ _) st.front5 ty_one3 rfl rfl rfl (by first | decide | omega) rfl rfl ?_ | refine WL.store (v := _) st.front5 ty_one3 rfl rfl rfl (by first | decide | omega) rfl rfl ?_ | refine WL.store (v := .int _ _) st.front6 ty_one3 rfl rfl rfl (by first | decide | omega) rfl rfl ?_ | refine WL.store (v := _) st.front6 ty_one3 rfl rfl rfl (by first | decide | omega) rfl rfl ?_ | refine WL.store (v := .int _ _) st.front7 ty_one3 rfl rfl rfl (by first | decide | omega) rfl rfl ?_ | refine WL.store (v := _) st.front7 ty_one3 rfl rfl rfl (by first | decide | omega) rfl rfl ?_ | refine WL.store (v := .int _ _) st.front8 ty_one3 rfl rfl rfl (by first | decide | omega) rfl rfl ?_ | refine WL.store (v := _) st.front8 ty_one3 rfl rfl rfl (by first | decide | omega) rfl rfl ?_
      intro w st
      refine WL.join hKC (fun _ _ h => h) () ⟨by omega, by rw [hM0, if_pos ⟨hc0, hk7⟩]; exact stE iF_setN st⟩ (by repeat (first | exact sub_nil _ | refine sub_cons rfl rfl ?_))
  clear st
  rintro _ w ⟨hc20, st⟩
  obtain ⟨M1, hM1⟩ : ∃ M1, M1 = wrM s o code := ⟨_, rfl⟩
  rw [← hM1] at hn
  refine WC.seq fun K1957 hK1957 => ?_
  refine WC.seq fun K1958 hK1958 => ?_
  -- region 8
  refine WC.region ?_
  -- R8.0 66 := law.go:160 fieldAddr
  refine WL.v (by exact r_field ty_fld36_3 rfl) rfl rfl rfl ?_
  -- R8.1 67 := law.go:160 fieldAddr
  refine WL.v (by exact r_field ty_fld34_0 rfl) rfl rfl rfl ?_
  -- R8.2 68 := law.go:160 load
  refine WL.v (by exact r_load1 (v := .int .i64 code) ty_one30 rfl (by rw [← f7]; exact st.c1 (by decide))) rfl rfl rfl ?_
  -- R8.3 69 := law.go:160 binOp
  refine WL.v (by first | exact r_eql rfl rfl (decide_eq_true (by omega)) | exact r_eql rfl rfl (decide_eq_false (by omega)) | exact r_eql rfl rfl rfl) rfl rfl rfl ?_
  -- R8.4 70 := law.go:160 move
  refine WL.v (by first | exact r_move (v := .bool _) rfl | exact r_move rfl) rfl rfl rfl ?_
  -- R8.5 71 := law.go:160 fieldAddr
  refine WL.no rfl rfl ?_
  -- R8.6 72 := law.go:160 fieldAddr
  refine WL.no rfl rfl ?_
  -- R8.7 73 := law.go:160 load
  refine WL.no rfl rfl ?_
  -- R8.8 74 := law.go:160 binOp
  refine WL.no rfl rfl ?_
  -- R8.9 75 := law.go:160 move
  refine WL.no rfl rfl ?_
  -- R8.10 76 := law.go:160 move
  refine WL.no rfl rfl ?_
  -- R8.11 77 := law.go:160 indexAddr
  refine WL.no rfl rfl ?_
  -- R8.12 78 := law.go:160 load
  refine WL.no rfl rfl ?_
  -- R8.13 79 := law.go:160 binOp
  refine WL.no rfl rfl ?_
  -- R8.14 80 := law.go:160 pick
  refine WL.no rfl rfl ?_
  -- R8.15 81 := law.go:160 pick
  refine WL.v (by first | exact r_pickT (v := .bool _) rfl rfl | exact r_pickF (v := .bool _) rfl rfl) rfl rfl rfl ?_
  refine WL.fin hK1958 (fun _ _ h => h) ?_
  refine WC.condF rfl rfl ?_
  refine WC.skipF hK1957 (fun _ _ h => h) ?_
  refine WC.cut (ι := Unit) (fun _ => [(1, .pointer (some ⟨b0, 0, none⟩)), (2, .pointer (some ⟨b2, 0, none⟩))]) (fun _ w' => S0 w0 ((b0, Row 76 16 (iF fun t => (((M1) t : Nat) : Int))) :: (b2, Row 36 10 fs) :: l) w') ?_ ?_
  rotate_left
  · intro KC hKC
    by_cases hc0 : code = 0
    rotate_left
    · have e : M1 = M0 := by rw [hM1, hM0]; unfold wrM; rw [if_neg (fun k => hc0 k.1), if_neg (fun k => hc0 k.1), if_neg (fun k => hc0 k.1)]
      refine WC.seq fun K1959 hK1959 => ?_
      -- region 10
      refine WC.region ?_
      -- R10.0 82 := law.go:163 fieldAddr
      refine WL.v (by exact r_field ty_fld36_3 rfl) rfl rfl rfl ?_
      -- R10.1 83 := law.go:163 fieldAddr
      refine WL.v (by exact r_field ty_fld34_0 rfl) rfl rfl rfl ?_
      -- R10.2 84 := law.go:163 load
      refine WL.v (by exact r_load1 (v := .int .i64 code) ty_one30 rfl (by rw [← f7]; exact st.c1 (by decide))) rfl rfl rfl ?_
      -- R10.3 85 := law.go:163 binOp
      refine WL.v (by first | exact r_eql rfl rfl (decide_eq_true (by omega)) | exact r_eql rfl rfl (decide_eq_false (by omega)) | exact r_eql rfl rfl rfl) rfl rfl rfl ?_
      -- R10.4 86 := law.go:163 move
      refine WL.v (by first | exact r_move (v := .bool _) rfl | exact r_move rfl) rfl rfl rfl ?_
      -- R10.5 87 := law.go:163 fieldAddr
      refine WL.no rfl rfl ?_
      -- R10.6 88 := law.go:163 fieldAddr
      refine WL.no rfl rfl ?_
      -- R10.7 89 := law.go:163 load
      refine WL.no rfl rfl ?_
      -- R10.8 90 := law.go:163 binOp
      refine WL.no rfl rfl ?_
      -- R10.9 91 := law.go:163 move
      refine WL.no rfl rfl ?_
      -- R10.10 92 := law.go:163 fieldAddr
      refine WL.no rfl rfl ?_
      -- R10.11 93 := law.go:163 fieldAddr
      refine WL.no rfl rfl ?_
      -- R10.12 94 := law.go:163 load
      refine WL.no rfl rfl ?_
      -- R10.13 95 := law.go:163 binOp
      refine WL.no rfl rfl ?_
      -- R10.14 96 := law.go:163 pick
      refine WL.no rfl rfl ?_
      -- R10.15 97 := law.go:163 pick
      refine WL.v (by first | exact r_pickT (v := .bool _) rfl rfl | exact r_pickF (v := .bool _) rfl rfl) rfl rfl rfl ?_
      refine WL.fin hK1959 (fun _ _ h => h) ?_
      refine WC.condF rfl rfl ?_
      refine WC.skipJ hKC (fun _ _ h => h) () (by rw [e]; exact st) (by repeat (first | exact sub_nil _ | refine sub_cons rfl rfl ?_))
    by_cases hk89 : o.kind = 8 ∨ o.kind = 9
    rotate_left
    · have e : M1 = M0 := by rw [hM1, hM0]; unfold wrM; rw [if_neg (c := code = 0 ∧ (o.kind = 8 ∨ o.kind = 9)) (fun k => hk89 k.2)]
      refine WC.seq fun K1960 hK1960 => ?_
      -- region 10
      refine WC.region ?_
      -- R10.0 82 := law.go:163 fieldAddr
      refine WL.v (by exact r_field ty_fld36_3 rfl) rfl rfl rfl ?_
      -- R10.1 83 := law.go:163 fieldAddr
      refine WL.v (by exact r_field ty_fld34_0 rfl) rfl rfl rfl ?_
      -- R10.2 84 := law.go:163 load
      refine WL.v (by exact r_load1 (v := .int .i64 code) ty_one30 rfl (by rw [← f7]; exact st.c1 (by decide))) rfl rfl rfl ?_
      -- R10.3 85 := law.go:163 binOp
      refine WL.v (by first | exact r_eql rfl rfl (decide_eq_true (by omega)) | exact r_eql rfl rfl (decide_eq_false (by omega)) | exact r_eql rfl rfl rfl) rfl rfl rfl ?_
      -- R10.4 86 := law.go:163 move
      refine WL.v (by first | exact r_move (v := .bool _) rfl | exact r_move rfl) rfl rfl rfl ?_
      -- R10.5 87 := law.go:163 fieldAddr
      refine WL.v (by exact r_field ty_fld36_0 rfl) rfl rfl rfl ?_
      -- R10.6 88 := law.go:163 fieldAddr
      refine WL.v (by exact r_field ty_fld28_0 rfl) rfl rfl rfl ?_
      -- R10.7 89 := law.go:163 load
      refine WL.v (by exact r_load1 (v := .int .u8 (o.kind : Nat)) ty_one25 rfl (by rw [← f0]; exact st.c1 (by decide))) rfl rfl rfl ?_
      -- R10.8 90 := law.go:163 binOp
      refine WL.v (by first | exact r_eql rfl rfl (decide_eq_true (by omega)) | exact r_eql rfl rfl (decide_eq_false (by omega)) | exact r_eql rfl rfl rfl) rfl rfl rfl ?_
      -- R10.9 91 := law.go:163 move
      refine WL.v (by first | exact r_move (v := .bool _) rfl | exact r_move rfl) rfl rfl rfl ?_
      -- R10.10 92 := law.go:163 fieldAddr
      refine WL.v (by exact r_field ty_fld36_0 rfl) rfl rfl rfl ?_
      -- R10.11 93 := law.go:163 fieldAddr
      refine WL.v (by exact r_field ty_fld28_0 rfl) rfl rfl rfl ?_
      -- R10.12 94 := law.go:163 load
      refine WL.v (by exact r_load1 (v := .int .u8 (o.kind : Nat)) ty_one25 rfl (by rw [← f0]; exact st.c1 (by decide))) rfl rfl rfl ?_
      -- R10.13 95 := law.go:163 binOp
      refine WL.v (by first | exact r_eql rfl rfl (decide_eq_true (by omega)) | exact r_eql rfl rfl (decide_eq_false (by omega)) | exact r_eql rfl rfl rfl) rfl rfl rfl ?_
      -- R10.14 96 := law.go:163 pick
      refine WL.v (by first | exact r_pickT (v := .bool _) rfl rfl | exact r_pickF (v := .bool _) rfl rfl) rfl rfl rfl ?_
      -- R10.15 97 := law.go:163 pick
      refine WL.v (by first | exact r_pickT (v := .bool _) rfl rfl | exact r_pickF (v := .bool _) rfl rfl) rfl rfl rfl ?_
      refine WL.fin hK1960 (fun _ _ h => h) ?_
      refine WC.condF rfl rfl ?_
      refine WC.skipJ hKC (fun _ _ h => h) () (by rw [e]; exact st) (by repeat (first | exact sub_nil _ | refine sub_cons rfl rfl ?_))
    obtain ⟨t, ht16, hAt, hT, hl, hwt⟩ := cf_T (h89 hc0 hk89)
    have e0 : M0 = nnF s := by rw [hM0, if_neg (fun k => by omega)]
    have e : M1 = updN M0 t 0 := by rw [hM1, e0]; unfold wrM; rw [if_neg (fun k => by omega), if_pos ⟨hc0, hk89⟩, hAt]; rfl
    by_cases hk8 : o.kind = 8
    · skip
      refine WC.seq fun K1961 hK1961 => ?_
      -- region 10
      refine WC.region ?_
      -- R10.0 82 := law.go:163 fieldAddr
      refine WL.v (by exact r_field ty_fld36_3 rfl) rfl rfl rfl ?_
      -- R10.1 83 := law.go:163 fieldAddr
      refine WL.v (by exact r_field ty_fld34_0 rfl) rfl rfl rfl ?_
      -- R10.2 84 := law.go:163 load
      refine WL.v (by exact r_load1 (v := .int .i64 code) ty_one30 rfl (by rw [← f7]; exact st.c1 (by decide))) rfl rfl rfl ?_
      -- R10.3 85 := law.go:163 binOp
      refine WL.v (by first | exact r_eql rfl rfl (decide_eq_true (by omega)) | exact r_eql rfl rfl (decide_eq_false (by omega)) | exact r_eql rfl rfl rfl) rfl rfl rfl ?_
      -- R10.4 86 := law.go:163 move
      refine WL.v (by first | exact r_move (v := .bool _) rfl | exact r_move rfl) rfl rfl rfl ?_
      -- R10.5 87 := law.go:163 fieldAddr
      refine WL.v (by exact r_field ty_fld36_0 rfl) rfl rfl rfl ?_
      -- R10.6 88 := law.go:163 fieldAddr
      refine WL.v (by exact r_field ty_fld28_0 rfl) rfl rfl rfl ?_
      -- R10.7 89 := law.go:163 load
      refine WL.v (by exact r_load1 (v := .int .u8 (o.kind : Nat)) ty_one25 rfl (by rw [← f0]; exact st.c1 (by decide))) rfl rfl rfl ?_
      -- R10.8 90 := law.go:163 binOp
      refine WL.v (by first | exact r_eql rfl rfl (decide_eq_true (by omega)) | exact r_eql rfl rfl (decide_eq_false (by omega)) | exact r_eql rfl rfl rfl) rfl rfl rfl ?_
      -- R10.9 91 := law.go:163 move
      refine WL.v (by first | exact r_move (v := .bool _) rfl | exact r_move rfl) rfl rfl rfl ?_
      -- R10.10 92 := law.go:163 fieldAddr
      refine WL.no rfl rfl ?_
      -- R10.11 93 := law.go:163 fieldAddr
      refine WL.no rfl rfl ?_
      -- R10.12 94 := law.go:163 load
      refine WL.no rfl rfl ?_
      -- R10.13 95 := law.go:163 binOp
      refine WL.no rfl rfl ?_
      -- R10.14 96 := law.go:163 pick
      refine WL.v (by first | exact r_pickT (v := .bool _) rfl rfl | exact r_pickF (v := .bool _) rfl rfl) rfl rfl rfl ?_
      -- R10.15 97 := law.go:163 pick
      refine WL.v (by first | exact r_pickT (v := .bool _) rfl rfl | exact r_pickF (v := .bool _) rfl rfl) rfl rfl rfl ?_
      refine WL.fin hK1961 (fun _ _ h => h) ?_
      refine WC.condT rfl rfl ?_
      -- region 11
      refine WC.region ?_
      -- R11.0 98 := law.go:164 move
      refine WL.v (by exact r_move (v := .int .i64 (t : Nat)) (congrArg (Value.int .i64) hT)) rfl rfl rfl ?_
      -- R11.1 99 := law.go:164 indexAddr
      refine WL.v (by exact r_indexA (j := t) ty_ar76 rfl rfl rfl ht16) rfl rfl rfl ?_
      -- R11.2 None := law.go:164 store
      first | refine WL.store (v := .int _ _) st ty_one3 rfl rfl rfl (by first | decide | omega) rfl rfl ?_ | refine WL.store (v := _) st ty_one3 rfl rfl rfl (by first | decide | omega) rfl rfl ?_ | refine WL.store (v := .int _ _) st.front1 ty_one3 rfl rfl rfl (by first | decide | omega) rfl rfl ?_ | refine WL.store (v := _) st.front1 ty_one3 rfl rfl rfl (by first | decide | omega) rfl rfl ?_ | refine WL.store (v := .int _ _) st.front2 ty_one3 rfl rfl rfl (by first | decide | omega) rfl rfl ?_ | refine WL.store (v := _) st.front2 ty_one3 rfl rfl rfl (by first | decide | omega) rfl rfl ?_ | refine WL.store (v := .int _ _) st.front3 ty_one3 rfl rfl rfl (by first | decide | omega) rfl rfl ?_ | refine WL.store (v := _) st.front3 ty_one3 rfl rfl rfl (by first | decide | omega) rfl rfl ?_ | refine WL.store (v := .int _ _) st.front4 ty_one3 rfl rfl rfl (by first | decide | omega) rfl rfl ?_ | refine WL.store (v := _) st.front4 ty_one3 rfl rfl rfl (by first | decide | omega) rfl rfl ?_ | refine WL.store (v := .int _ _) st.front5 ty_one3 rfl rfl rfl (by first | decide | omega) rfl rfl ?_ | refine WL.store (v := _) st.front5 ty_one3 rfl rfl rfl (by first | decide | omega) rfl rfl ?_ | refine WL.store (v := .int _ _) st.front6 ty_one3 rfl rfl rfl (by first | decide | omega) rfl rfl ?_ | refine WL.store (v := _) st.front6 ty_one3 rfl rfl rfl (by first | decide | omega) rfl rfl ?_ | refine WL.store (v := .int _ _) st.front7 ty_one3 rfl rfl rfl (by first | decide | omega) rfl rfl ?_ | refine WL.store (v := _) st.front7 ty_one3 rfl rfl rfl (by first | decide | omega) rfl rfl ?_ | refine WL.store (v := .int _ _) st.front8 ty_one3 rfl rfl rfl (by first | decide | omega) rfl rfl ?_ | refine WL.store (v := _) st.front8 ty_one3 rfl rfl rfl (by first | decide | omega) rfl rfl ?_
      intro w st
      refine WL.join hKC (fun _ _ h => h) () (by rw [e]; exact stE (iF_setN (x := 0)) st) (by repeat (first | exact sub_nil _ | refine sub_cons rfl rfl ?_))
    · skip
      refine WC.seq fun K1962 hK1962 => ?_
      -- region 10
      refine WC.region ?_
      -- R10.0 82 := law.go:163 fieldAddr
      refine WL.v (by exact r_field ty_fld36_3 rfl) rfl rfl rfl ?_
      -- R10.1 83 := law.go:163 fieldAddr
      refine WL.v (by exact r_field ty_fld34_0 rfl) rfl rfl rfl ?_
      -- R10.2 84 := law.go:163 load
      refine WL.v (by exact r_load1 (v := .int .i64 code) ty_one30 rfl (by rw [← f7]; exact st.c1 (by decide))) rfl rfl rfl ?_
      -- R10.3 85 := law.go:163 binOp
      refine WL.v (by first | exact r_eql rfl rfl (decide_eq_true (by omega)) | exact r_eql rfl rfl (decide_eq_false (by omega)) | exact r_eql rfl rfl rfl) rfl rfl rfl ?_
      -- R10.4 86 := law.go:163 move
      refine WL.v (by first | exact r_move (v := .bool _) rfl | exact r_move rfl) rfl rfl rfl ?_
      -- R10.5 87 := law.go:163 fieldAddr
      refine WL.v (by exact r_field ty_fld36_0 rfl) rfl rfl rfl ?_
      -- R10.6 88 := law.go:163 fieldAddr
      refine WL.v (by exact r_field ty_fld28_0 rfl) rfl rfl rfl ?_
      -- R10.7 89 := law.go:163 load
      refine WL.v (by exact r_load1 (v := .int .u8 (o.kind : Nat)) ty_one25 rfl (by rw [← f0]; exact st.c1 (by decide))) rfl rfl rfl ?_
      -- R10.8 90 := law.go:163 binOp
      refine WL.v (by first | exact r_eql rfl rfl (decide_eq_true (by omega)) | exact r_eql rfl rfl (decide_eq_false (by omega)) | exact r_eql rfl rfl rfl) rfl rfl rfl ?_
      -- R10.9 91 := law.go:163 move
      refine WL.v (by first | exact r_move (v := .bool _) rfl | exact r_move rfl) rfl rfl rfl ?_
      -- R10.10 92 := law.go:163 fieldAddr
      refine WL.v (by exact r_field ty_fld36_0 rfl) rfl rfl rfl ?_
      -- R10.11 93 := law.go:163 fieldAddr
      refine WL.v (by exact r_field ty_fld28_0 rfl) rfl rfl rfl ?_
      -- R10.12 94 := law.go:163 load
      refine WL.v (by exact r_load1 (v := .int .u8 (o.kind : Nat)) ty_one25 rfl (by rw [← f0]; exact st.c1 (by decide))) rfl rfl rfl ?_
      -- R10.13 95 := law.go:163 binOp
      refine WL.v (by first | exact r_eql rfl rfl (decide_eq_true (by omega)) | exact r_eql rfl rfl (decide_eq_false (by omega)) | exact r_eql rfl rfl rfl) rfl rfl rfl ?_
      -- R10.14 96 := law.go:163 pick
      refine WL.v (by first | exact r_pickT (v := .bool _) rfl rfl | exact r_pickF (v := .bool _) rfl rfl) rfl rfl rfl ?_
      -- R10.15 97 := law.go:163 pick
      refine WL.v (by first | exact r_pickT (v := .bool _) rfl rfl | exact r_pickF (v := .bool _) rfl rfl) rfl rfl rfl ?_
      refine WL.fin hK1962 (fun _ _ h => h) ?_
      refine WC.condT rfl rfl ?_
      -- region 11
      refine WC.region ?_
      -- R11.0 98 := law.go:164 move
      refine WL.v (by exact r_move (v := .int .i64 (t : Nat)) (congrArg (Value.int .i64) hT)) rfl rfl rfl ?_
      -- R11.1 99 := law.go:164 indexAddr
      refine WL.v (by exact r_indexA (j := t) ty_ar76 rfl rfl rfl ht16) rfl rfl rfl ?_
      -- R11.2 None := law.go:164 store
      first | refine WL.store (v := .int _ _) st ty_one3 rfl rfl rfl (by first | decide | omega) rfl rfl ?_ | refine WL.store (v := _) st ty_one3 rfl rfl rfl (by first | decide | omega) rfl rfl ?_ | refine WL.store (v := .int _ _) st.front1 ty_one3 rfl rfl rfl (by first | decide | omega) rfl rfl ?_ | refine WL.store (v := _) st.front1 ty_one3 rfl rfl rfl (by first | decide | omega) rfl rfl ?_ | refine WL.store (v := .int _ _) st.front2 ty_one3 rfl rfl rfl (by first | decide | omega) rfl rfl ?_ | refine WL.store (v := _) st.front2 ty_one3 rfl rfl rfl (by first | decide | omega) rfl rfl ?_ | refine WL.store (v := .int _ _) st.front3 ty_one3 rfl rfl rfl (by first | decide | omega) rfl rfl ?_ | refine WL.store (v := _) st.front3 ty_one3 rfl rfl rfl (by first | decide | omega) rfl rfl ?_ | refine WL.store (v := .int _ _) st.front4 ty_one3 rfl rfl rfl (by first | decide | omega) rfl rfl ?_ | refine WL.store (v := _) st.front4 ty_one3 rfl rfl rfl (by first | decide | omega) rfl rfl ?_ | refine WL.store (v := .int _ _) st.front5 ty_one3 rfl rfl rfl (by first | decide | omega) rfl rfl ?_ | refine WL.store (v := _) st.front5 ty_one3 rfl rfl rfl (by first | decide | omega) rfl rfl ?_ | refine WL.store (v := .int _ _) st.front6 ty_one3 rfl rfl rfl (by first | decide | omega) rfl rfl ?_ | refine WL.store (v := _) st.front6 ty_one3 rfl rfl rfl (by first | decide | omega) rfl rfl ?_ | refine WL.store (v := .int _ _) st.front7 ty_one3 rfl rfl rfl (by first | decide | omega) rfl rfl ?_ | refine WL.store (v := _) st.front7 ty_one3 rfl rfl rfl (by first | decide | omega) rfl rfl ?_ | refine WL.store (v := .int _ _) st.front8 ty_one3 rfl rfl rfl (by first | decide | omega) rfl rfl ?_ | refine WL.store (v := _) st.front8 ty_one3 rfl rfl rfl (by first | decide | omega) rfl rfl ?_
      intro w st
      refine WL.join hKC (fun _ _ h => h) () (by rw [e]; exact stE (iF_setN (x := 0)) st) (by repeat (first | exact sub_nil _ | refine sub_cons rfl rfl ?_))
  clear st
  rintro _ w st
  refine WC.seq fun K1963 hK1963 => ?_
  refine WC.seq fun K1964 hK1964 => ?_
  -- region 12
  refine WC.region ?_
  -- R12.0 100 := law.go:166 load
  refine WL.v (by exact r_loadL (vs := stepL o bB bA code task (.slice a ans.length c)) ty_agg36 rfl ⟨(st.c1 (by decide)).trans (congrArg some f0), (st.c1 (by decide)).trans (congrArg some f1), (st.c1 (by decide)).trans (congrArg some f2), (st.c1 (by decide)).trans (congrArg some f3), (st.c1 (by decide)).trans (congrArg some f4), (st.c1 (by decide)).trans (congrArg some f5), (st.c1 (by decide)).trans (congrArg some f6), (st.c1 (by decide)).trans (congrArg some f7), (st.c1 (by decide)).trans (congrArg some f8), (st.c1 (by decide)).trans (congrArg some f9), trivial⟩) rfl rfl rfl ?_
  -- R12.1 101 := law.go:166 call
  refine WL.call (r_call ty_call29 rfl) rfl rfl rfl (told_ok (o := o) (cd := 3) (hck2 _) h16 st) ?_
  rintro _ w ⟨rfl, st⟩
  -- R12.2 102 := law.go:166 call
  refine WL.call (r_call ty_call31 rfl) rfl rfl rfl (tasks_ok hD (toldL_lt ans (by decide) h16) st) ?_
  rintro _ w ⟨XT, hXT, st⟩
  obtain ⟨Ts, hTs⟩ : ∃ Ts, Ts = tasksP (toldP ans 3) := ⟨_, rfl⟩
  have hT16 : ∀ o, o ∈ Ts → o < 16 := fun o h => by rw [hTs] at h; exact tasksP_lt h
  have hTl : Ts.length ≤ 16 := by rw [hTs]; exact tasksP_len
  rw [← hTs] at hXT
  obtain ⟨at', ct, bt, rfl, hct1, hct2, hat', htcell⟩ := hXT.form
  -- R12.3 103 := law.go:166 call
  refine WL.v (by exact r_len ty_usl54 rfl) rfl rfl rfl ?_
  -- R12.4 104 := law.go:166 move
  refine WL.v (by first | exact r_move (v := .int _ _) rfl | exact r_move rfl) rfl rfl rfl ?_
  refine WL.fin hK1964 (fun _ _ h => h) ?_
  refine WC.block ?_
  refine WC.loop (ι := Nat) (fun k => [(1, .pointer (some ⟨b0, 0, none⟩)), (2, .pointer (some ⟨b2, 0, none⟩)), (102, .slice at' Ts.length ct), (103, .int .i64 (Ts.length : Nat)), (104, .int .i64 (k : Nat))])
    (fun k w' => k ≤ Ts.length ∧ S0 w0 ((b0, Row 76 16 (iF fun t => ((((Ts.take k).foldl zap0 M1) t : Nat) : Int))) :: (XT ++ ((b2, Row 36 10 fs) :: l))) w') (fun k => Ts.length - k) 0 ⟨Nat.zero_le _, st.perm (by classical exact List.perm_iff_count.2 fun x => by simp only [List.count_append, List.count_cons, List.count_nil, List.append_eq, List.cons_append, List.nil_append, List.append_assoc, Nat.add_zero, Nat.zero_add] <;> ac_rfl)⟩ ?_ ?_
  · skip
    repeat (first | exact sub_nil _ | refine sub_cons rfl rfl ?_)
  clear st
  rintro k w ⟨hk, st⟩ K2 hK2
  by_cases hkl : k = Ts.length
  rotate_left
  · have hkl' : k < Ts.length := by omega
    obtain ⟨v, hv⟩ : ∃ v, Ts[k]? = some v := ⟨Ts[k], List.getElem?_eq_getElem hkl'⟩
    have hv16 := hT16 v (List.mem_of_getElem? hv)
    have hfo := foldl_snoc (f := zap0) (b := M1) hv
    obtain rfl := hat' (by omega)
    have hce := htcell st (fun x hx => List.mem_cons_of_mem _ (List.mem_append_left _ hx)) k v hv 0 (by decide)
    refine WC.seq fun K1965 hK1965 => ?_
    -- region 13
    refine WC.region ?_
    -- R13.0 105 := law.go:166 binOp
    refine WL.v (by first | exact r_lss rfl rfl (decide_eq_true (by omega)) | exact r_lss rfl rfl (decide_eq_false (by omega)) | exact r_lss rfl rfl rfl) rfl rfl rfl ?_
    refine WL.fin hK1965 (fun _ _ h => h) ?_
    refine WC.seq fun K1966 hK1966 => ?_
    refine WC.condT rfl rfl ?_
    refine WC.skipF hK1966 (fun _ _ h => h) ?_
    refine WC.seq fun K1967 hK1967 => ?_
    refine WC.block ?_
    refine WC.seq fun K1968 hK1968 => ?_
    -- region 14
    refine WC.region ?_
    -- R14.0 106 := law.go:166 indexAddr
    refine WL.v (by exact r_indexS (j := k) ty_sl54 rfl rfl rfl (by omega)) rfl rfl rfl ?_
    -- R14.1 107 := law.go:166 load
    refine WL.v (by exact r_load1 (v := .int .i64 (v : Nat)) ty_one31 rfl (by rw [Nat.zero_add]; exact hce)) rfl rfl rfl ?_
    -- R14.2 7 := law.go:166 assign
    refine WL.v (by first | exact r_assign (v := .int _ _) rfl | exact r_assign rfl) rfl rfl rfl ?_
    refine WL.fin hK1968 (fun _ _ h => h) ?_
    -- region 15
    refine WC.region ?_
    -- R15.0 108 := law.go:167 move
    refine WL.v (by first | exact r_move (v := .int _ _) rfl | exact r_move rfl) rfl rfl rfl ?_
    -- R15.1 109 := law.go:167 indexAddr
    refine WL.v (by exact r_indexA (j := v) ty_ar76 rfl rfl rfl hv16) rfl rfl rfl ?_
    -- R15.2 None := law.go:167 store
    first | refine WL.store (v := .int _ _) st ty_one3 rfl rfl rfl (by first | decide | omega) rfl rfl ?_ | refine WL.store (v := _) st ty_one3 rfl rfl rfl (by first | decide | omega) rfl rfl ?_ | refine WL.store (v := .int _ _) st.front1 ty_one3 rfl rfl rfl (by first | decide | omega) rfl rfl ?_ | refine WL.store (v := _) st.front1 ty_one3 rfl rfl rfl (by first | decide | omega) rfl rfl ?_ | refine WL.store (v := .int _ _) st.front2 ty_one3 rfl rfl rfl (by first | decide | omega) rfl rfl ?_ | refine WL.store (v := _) st.front2 ty_one3 rfl rfl rfl (by first | decide | omega) rfl rfl ?_ | refine WL.store (v := .int _ _) st.front3 ty_one3 rfl rfl rfl (by first | decide | omega) rfl rfl ?_ | refine WL.store (v := _) st.front3 ty_one3 rfl rfl rfl (by first | decide | omega) rfl rfl ?_ | refine WL.store (v := .int _ _) st.front4 ty_one3 rfl rfl rfl (by first | decide | omega) rfl rfl ?_ | refine WL.store (v := _) st.front4 ty_one3 rfl rfl rfl (by first | decide | omega) rfl rfl ?_ | refine WL.store (v := .int _ _) st.front5 ty_one3 rfl rfl rfl (by first | decide | omega) rfl rfl ?_ | refine WL.store (v := _) st.front5 ty_one3 rfl rfl rfl (by first | decide | omega) rfl rfl ?_ | refine WL.store (v := .int _ _) st.front6 ty_one3 rfl rfl rfl (by first | decide | omega) rfl rfl ?_ | refine WL.store (v := _) st.front6 ty_one3 rfl rfl rfl (by first | decide | omega) rfl rfl ?_ | refine WL.store (v := .int _ _) st.front7 ty_one3 rfl rfl rfl (by first | decide | omega) rfl rfl ?_ | refine WL.store (v := _) st.front7 ty_one3 rfl rfl rfl (by first | decide | omega) rfl rfl ?_ | refine WL.store (v := .int _ _) st.front8 ty_one3 rfl rfl rfl (by first | decide | omega) rfl rfl ?_ | refine WL.store (v := _) st.front8 ty_one3 rfl rfl rfl (by first | decide | omega) rfl rfl ?_
    intro w st
    refine WL.fin hK1967 (fun _ _ h => h) ?_
    -- region 16
    refine WC.region ?_
    -- R16.0 110 := law.go:166 binOp
    refine WL.v (by first | exact r_add rfl rfl (wi64 (by omega) (by omega)) | exact r_add rfl rfl rfl) rfl rfl rfl ?_
    -- R16.1 104 := law.go:166 move
    refine WL.v (by first | exact r_move (v := .int _ _) rfl | exact r_move rfl) rfl rfl rfl ?_
    refine WL.next hK2 (fun _ _ h => h) (k + 1) ⟨hkl', by rw [hfo]; exact stE (iF_setN (x := 0)) st⟩ (by omega) (by repeat (first | exact sub_nil _ | refine sub_cons rfl rfl ?_))
  subst hkl
  rw [List.take_length] at st
  have st : S0 w0 ((b0, Row 76 16 (iF fun t => (((nnF s') t : Nat) : Int))) :: (b2, Row 36 10 fs) :: l) w := by
    refine stE (fun k hk => ?_) (st_dropL (st.perm (by classical exact List.perm_iff_count.2 fun x => by simp only [List.count_append, List.count_cons, List.count_nil, List.append_eq, List.cons_append, List.nil_append, List.append_assoc, Nat.add_zero, Nat.zero_add] <;> ac_rfl) : S0 w0 (XT ++ ((b0, Row 76 16 (iF fun t => (((Ts.foldl zap0 M1) t : Nat) : Int))) :: (b2, Row 36 10 fs) :: l)) w))
    unfold iF
    have : Ts.foldl zap0 M1 k = nnF s' k := by
      rw [hn k]
      show Ts.foldl (fun F v => updN F v 0) M1 k = _
      rw [foldl_zap, hTs]
      by_cases hb : (toldP ans 3).testBit k = true
      · rw [if_pos (tasksP_mem.2 ⟨hk, hb⟩), if_pos hb]
      · rw [if_neg (fun h => hb (tasksP_mem.1 h).2), if_neg hb]
    dsimp only
    rw [this]
  refine WC.seq fun K1969 hK1969 => ?_
  -- region 13
  refine WC.region ?_
  -- R13.0 105 := law.go:166 binOp
  refine WL.v (by first | exact r_lss rfl rfl (decide_eq_true (by omega)) | exact r_lss rfl rfl (decide_eq_false (by omega)) | exact r_lss rfl rfl rfl) rfl rfl rfl ?_
  refine WL.fin hK1969 (fun _ _ h => h) ?_
  refine WC.seq fun K1970 hK1970 => ?_
  refine WC.condF rfl rfl ?_
  refine WC.exitF hK1963 (fun _ _ h => h) ?_
  refine WC.seq fun K1971 hK1971 => ?_
  refine WC.seq fun K1972 hK1972 => ?_
  -- region 17
  refine WC.region ?_
  -- R17.0 111 := law.go:169 move
  refine WL.v (by first | exact r_move (v := .int _ _) rfl | exact r_move rfl) rfl rfl rfl ?_
  refine WL.fin hK1972 (fun _ _ h => h) ?_
  refine WC.block ?_
  refine WC.loop (ι := Nat) (fun i => [(1, .pointer (some ⟨b0, 0, none⟩)), (2, .pointer (some ⟨b2, 0, none⟩)), (111, .int .i64 (i : Nat))])
    (fun i w' => i ≤ 16 ∧ S0 w0 ((b0, Row 76 16 (iF fun t => (((nnF s') t : Nat) : Int))) :: (b2, Row 36 10 fs) :: l) w') (fun i => 16 - i) 0 ⟨Nat.zero_le _, st⟩ ?_ ?_
  · skip
    repeat (first | exact sub_nil _ | refine sub_cons rfl rfl ?_)
  clear st
  rintro i w ⟨hi, st⟩ K3 hK3
  by_cases h16' : i = 16
  · skip
    refine WC.seq fun K1973 hK1973 => ?_
    -- region 18
    refine WC.region ?_
    -- R18.0 112 := law.go:169 binOp
    refine WL.v (by first | exact r_lss rfl rfl (decide_eq_true (by omega)) | exact r_lss rfl rfl (decide_eq_false (by omega)) | exact r_lss rfl rfl rfl) rfl rfl rfl ?_
    refine WL.fin hK1973 (fun _ _ h => h) ?_
    refine WC.seq fun K1974 hK1974 => ?_
    refine WC.condF rfl rfl ?_
    refine WC.exitF hK1971 (fun _ _ h => h) ?_
    refine WC.seq fun K1975 hK1975 => ?_
    -- region 23
    refine WC.region ?_
    -- R23.0 3 := law.go:174 assign
    refine WL.v (by first | exact r_assign (v := .bool _) rfl | exact r_assign rfl) rfl rfl rfl ?_
    refine WL.fin hK1975 (fun _ _ h => h) ?_
    refine WC.ret1 Tryz.results47 (fun _ _ h => h) rfl ?_
    exact ⟨_, rfl, rfl, st.drop1⟩
  have hi' : i < 16 := by omega
  have h64i := h64' i
  refine WC.seq fun K1976 hK1976 => ?_
  -- region 18
  refine WC.region ?_
  -- R18.0 112 := law.go:169 binOp
  refine WL.v (by first | exact r_lss rfl rfl (decide_eq_true (by omega)) | exact r_lss rfl rfl (decide_eq_false (by omega)) | exact r_lss rfl rfl rfl) rfl rfl rfl ?_
  refine WL.fin hK1976 (fun _ _ h => h) ?_
  refine WC.seq fun K1977 hK1977 => ?_
  refine WC.condT rfl rfl ?_
  refine WC.skipF hK1977 (fun _ _ h => h) ?_
  refine WC.seq fun K1978 hK1978 => ?_
  refine WC.block ?_
  refine WC.seq fun K1979 hK1979 => ?_
  -- region 19
  refine WC.region ?_
  -- R19.0 113 := law.go:169 move
  refine WL.v (by first | exact r_move (v := .int _ _) rfl | exact r_move rfl) rfl rfl rfl ?_
  -- R19.1 8 := law.go:169 assign
  refine WL.v (by first | exact r_assign (v := .int _ _) rfl | exact r_assign rfl) rfl rfl rfl ?_
  refine WL.fin hK1979 (fun _ _ h => h) ?_
  refine WC.seq fun K1980 hK1980 => ?_
  -- region 20 (draws)
  refine WC.quietS st ty_mixed (by kernel_rfl) fun Kq hKq => ?_
  -- R20.0 114 := law.go:170 fieldAddr
  refine QL.v (fun w st => by exact r_field ty_fld36_2 rfl) rfl rfl rfl ?_
  -- R20.1 115 := law.go:170 load
  refine QL.v (fun w st => by exact r_load1 (v := .pointer (some ⟨bA, 0, none⟩)) ty_one29 rfl (by rw [← f6]; exact st.c1 (by decide))) rfl rfl rfl ?_
  -- R20.2 116 := law.go:170 move
  refine QL.v (fun w st => by first | exact r_move (v := .int _ _) rfl | exact r_move rfl) rfl rfl rfl ?_
  -- R20.3 117 := law.go:170 nilCheck
  refine QL.v (fun w st => by exact r_nilCheck rfl) rfl rfl rfl ?_
  -- R20.4 118 := law.go:170 fieldAddr
  refine QL.v (fun w st => by exact r_field ty_fld50_3 rfl) rfl rfl rfl ?_
  -- R20.5 119 := law.go:170 indexAddr
  refine QL.v (fun w st => by exact r_indexA (j := i) ty_ar43 rfl rfl rfl hi') rfl rfl rfl ?_
  -- R20.6 120 := law.go:170 fieldAddr
  refine QL.v (fun w st => by exact r_field ty_fld42_5 rfl) rfl rfl rfl ?_
  -- R20.7 121 := law.go:170 load
  refine QL.v (fun w st => by exact r_load1 (v := .int .i64 (nnF s' i : Nat)) ty_one3 rfl (c_sT (hck2 _).A hi' (j := 5) (by decide) (by omega) st)) rfl rfl rfl ?_
  -- R20.8 122 := law.go:170 move
  refine QL.v (fun w st => by first | exact r_move (v := .int _ _) rfl | exact r_move rfl) rfl rfl rfl ?_
  -- R20.9 123 := law.go:170 indexAddr
  refine QL.v (fun w st => by exact r_indexA (j := i) ty_ar76 rfl rfl rfl hi') rfl rfl rfl ?_
  -- R20.10 124 := law.go:170 load
  refine QL.v (fun w st => by exact r_load1 (v := .int .i64 (nnF s' i : Nat)) ty_one3 rfl (c_iF (F := fun t => (nnF s' t : Int)) List.mem_cons_self hi' st)) rfl rfl rfl ?_
  -- R20.11 125 := law.go:170 binOp
  refine QL.v (fun w st => by exact r_neq rfl rfl (decide_eq_false (fun h => h rfl))) rfl rfl rfl ?_
  -- R20.12 126 := law.go:170 move
  refine QL.v (fun w st => by first | exact r_move (v := .bool _) rfl | exact r_move rfl) rfl rfl rfl ?_
  -- R20.13 127 := law.go:170 move
  refine QL.v (fun w st => by first | exact r_move (v := .int _ _) rfl | exact r_move rfl) rfl rfl rfl ?_
  -- R20.14 128 := law.go:170 indexAddr
  refine QL.v (fun w st => by exact r_indexA (j := i) ty_ar76 rfl rfl rfl hi') rfl rfl rfl ?_
  -- R20.15 129 := law.go:170 load
  refine QL.v (fun w st => by exact r_load1 (v := .int .i64 (nnF s' i : Nat)) ty_one3 rfl (c_iF (F := fun t => (nnF s' t : Int)) List.mem_cons_self hi' st)) rfl rfl rfl ?_
  -- R20.16 130 := law.go:170 binOp
  refine QL.v (fun w st => by first | exact r_gtr rfl rfl (decide_eq_true (by omega)) | exact r_gtr rfl rfl (decide_eq_false (by omega)) | exact r_gtr rfl rfl rfl) rfl rfl rfl ?_
  -- R20.17 131 := law.go:170 pick
  refine QL.v (fun w st => by first | exact r_pickT (v := .bool _) rfl rfl | exact r_pickF (v := .bool _) rfl rfl) rfl rfl rfl ?_
  refine QL.wl hKq fun w st => ?_
  refine WL.fin hK1980 (fun _ _ h => h) ?_
  refine WC.condF rfl rfl ?_
  refine WC.skipF hK1978 (fun _ _ h => h) ?_
  -- region 22
  refine WC.region ?_
  -- R22.0 132 := law.go:169 binOp
  refine WL.v (by first | exact r_add rfl rfl (wi64 (by omega) (by omega)) | exact r_add rfl rfl rfl) rfl rfl rfl ?_
  -- R22.1 111 := law.go:169 move
  refine WL.v (by first | exact r_move (v := .int _ _) rfl | exact r_move rfl) rfl rfl rfl ?_
  refine WL.next hK3 (fun _ _ h => h) (i + 1) ⟨hi', st⟩ (by omega) (by repeat (first | exact sub_nil _ | refine sub_cons rfl rfl ?_))
theorem fullL_ok (a : Option Addr) (sb so n c : Nat) (op : Nat → Kern.Op) (hD : gD w) (hS : Scr w sb so n op) (hn63 : n ≤ 140737488355328) (ha : 0 < n → a = some ⟨sb, so, none⟩) :
    Calls Tryz.prog 9 #[.slice a n c] w (Ret fun v w' => v = .bool true ∧ S0 w [] w') := by
  have st : S0 w [] w := St.init w _
  by_cases hn : n ≤ 65536
  · have hC : ∀ b0, CheckOK w 47 #[.pointer (some ⟨b0, 0, none⟩)] op n fun i LI => LI = [(b0, Row 76 16 ((fun s => iF fun t => ((nnF s t : Nat) : Int)) (runP op i)))] := fun b0 => by
      refine check_one (f := fun s => iF fun t => ((nnF s t : Nat) : Int)) fun i hi bB bA qv qv' ov l w' hck st' => ?_
      have hK := run_KI op i
      have hI := run_INV op i
      have hV := run_VN op i
      have hK' := run_KI op (i + 1)
      have hpn := (pend_step (o := op i) hK.b hI hK.told).1
      refine full1_ok (s := runP op i) (s' := runP op (i + 1)) hD (fun a ha => ?_) code20 (fun h7 hf hb hh => ?_) (fun h0 h7 => write_ok0 hK.b hI h7 h0) (fun h0 h89 => call_ok0 hK.b hI (by omega) (by omega) h0) (full_step hK.b hI hV hK.told) (fun t => hK.b.n t) (fun t => hK'.b.n t) hck st'
      · obtain ⟨k, hk⟩ := List.getElem?_of_mem ha
        exact (PA_at hpn k a hk).1
      · have := write_code (s := runP op i) h7 hf hb hh
        exact ⟨fun k => ⟨(this.1 k).1, after_id (this.1 k).2 hK.told⟩, this.2⟩
    refine enter [.slice a n c] Tryz.func9 rfl Tryz.ntmps9 rfl ?_
    show WC _ _ _ 10 [] [(0, .slice a n c)] _
    refine WC.seq fun K1981 hK1981 => ?_
    -- region 0
    refine WC.region ?_
    -- R0.0 2 := law.go:142 assign
    refine WL.v (by first | exact r_assign (v := .bool _) rfl | exact r_assign rfl) rfl rfl rfl ?_
    refine WL.fin hK1981 (fun _ _ h => h) ?_
    refine WC.seq fun K1982 hK1982 => ?_
    refine WC.seq fun K1983 hK1983 => ?_
    -- region 1
    refine WC.region ?_
    -- R1.0 4 := law.go:143 move
    refine WL.v (by first | exact r_move (v := .slice _ _ _) rfl | exact r_move rfl) rfl rfl rfl ?_
    -- R1.1 5 := law.go:143 call
    refine WL.call (r_call ty_call23 rfl) rfl rfl rfl (zzSmall1_ok a n c st) ?_
    rintro _ w' ⟨he, st⟩
    rw [decide_eq_true hn] at he
    subst he
    -- R1.2 6 := law.go:143 unOp
    refine WL.v (by first | exact r_notT rfl | exact r_notF rfl | exact r_not rfl) rfl rfl rfl ?_
    refine WL.fin hK1983 (fun _ _ h => h) ?_
    refine WC.condF rfl rfl ?_
    refine WC.skipF hK1982 (fun _ _ h => h) ?_
    refine WC.seq fun K1984 hK1984 => ?_
    -- region 3
    refine WC.region ?_
    -- R3.0 3 := law.go:147 alloc
    refine WL.allocN (m := 16) st ty_zeroN76 rfl rfl ?_
    intro b3 w st
    refine WL.fin hK1984 (fun _ _ h => h) ?_
    refine WC.seq fun K1985 hK1985 => ?_
    -- region 4
    refine WC.region ?_
    -- R4.0 7 := law.go:148 move
    refine WL.v (by first | exact r_move (v := .slice _ _ _) rfl | exact r_move rfl) rfl rfl rfl ?_
    -- R4.1 8 := law.go:148 makeFunc
    refine WL.v (by exact r_mkfn rfl rfl) rfl rfl rfl ?_
    -- R4.2 9 := law.go:148 call
    have st := (stE (fun k hk => rfl) st : S0 _ ([(b3, Row 76 16 ((fun s => iF fun t => ((nnF s t : Nat) : Int)) ks0))] ++ []) _)
    refine WL.call (r_call ty_call24 rfl) rfl rfl rfl (play_ok (l := []) ty_call47 hD hS hn ha (hC b3) rfl st) ?_
    rintro _ w'' ⟨rfl, LI', rfl, st⟩
    -- R4.3 2 := law.go:148 assign
    refine WL.v (by first | exact r_assign (v := .bool _) rfl | exact r_assign rfl) rfl rfl rfl ?_
    refine WL.fin hK1985 (fun _ _ h => h) ?_
    refine WC.ret1 Tryz.results9 (fun _ _ h => h) rfl ?_
    exact ⟨_, rfl, rfl, st.drop⟩
  · skip
    refine enter [.slice a n c] Tryz.func9 rfl Tryz.ntmps9 rfl ?_
    show WC _ _ _ 10 [] [(0, .slice a n c)] _
    refine WC.seq fun K1986 hK1986 => ?_
    -- region 0
    refine WC.region ?_
    -- R0.0 2 := law.go:142 assign
    refine WL.v (by first | exact r_assign (v := .bool _) rfl | exact r_assign rfl) rfl rfl rfl ?_
    refine WL.fin hK1986 (fun _ _ h => h) ?_
    refine WC.seq fun K1987 hK1987 => ?_
    refine WC.seq fun K1988 hK1988 => ?_
    -- region 1
    refine WC.region ?_
    -- R1.0 4 := law.go:143 move
    refine WL.v (by first | exact r_move (v := .slice _ _ _) rfl | exact r_move rfl) rfl rfl rfl ?_
    -- R1.1 5 := law.go:143 call
    refine WL.call (r_call ty_call23 rfl) rfl rfl rfl (zzSmall1_ok a n c st) ?_
    rintro _ w' ⟨he, st⟩
    rw [decide_eq_false hn] at he
    subst he
    -- R1.2 6 := law.go:143 unOp
    refine WL.v (by first | exact r_notT rfl | exact r_notF rfl | exact r_not rfl) rfl rfl rfl ?_
    refine WL.fin hK1988 (fun _ _ h => h) ?_
    refine WC.condT rfl rfl ?_
    refine WC.seq fun K1989 hK1989 => ?_
    -- region 2
    refine WC.region ?_
    -- R2.0 2 := law.go:144 assign
    refine WL.v (by first | exact r_assign (v := .bool _) rfl | exact r_assign rfl) rfl rfl rfl ?_
    refine WL.fin hK1989 (fun _ _ h => h) ?_
    refine WC.ret1 Tryz.results9 (fun _ _ h => h) rfl ?_
    exact ⟨_, rfl, rfl, st⟩
end Go.Proofs.Qxb6500834aGreatDoor

