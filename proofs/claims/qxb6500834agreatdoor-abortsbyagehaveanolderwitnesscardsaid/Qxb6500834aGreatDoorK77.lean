import Derived.Test.Qxb6500834aGreatDoorK76
set_option linter.unusedVariables false
set_option linter.unusedSimpArgs false
set_option maxRecDepth 20000
namespace Go.Proofs.Qxb6500834aGreatDoor
open Go.RowKit Go.E1 Go.Kern
theorem ty_call32 : callT Tryz.prog 32 = true := by kernel_rfl
theorem ty_call35 : callT Tryz.prog 35 = true := by kernel_rfl
variable {w0 : World} {l X : List HI} {w : World} {s s' s0 : KS} {t r N n : Nat} {qv qv' : Nat → Value}

/-! Law: rollbacks by age have an older witness, plainly. -/
structure AgeR (s : KS) (o : Kern.Op) (s' : KS) (c : Int) : Prop where
  z : toldP s'.told 3 = 0 → c ≠ 3
  y : toldP s'.told 3 ≠ 0 → ∃ t r : Nat, (o.kind = 3 ∨ o.kind = 5) ∧ o.A = t ∧ o.B = r ∧ t < 16 ∧ r < 20 ∧ cfB s o = true ∧ (∀ v, v < 16 → abB s' v = true → ∃ w, w < 16 ∧ (s.tk w).live = true ∧ (s.tk w).birth < (s.tk v).birth) ∧ (s.mode = 1 → toldP s'.told 3 = 2 ^ t ∧ c = 3 ∧ ∃ u, Rival s t r u ∧ (s.tk u).birth < (s.tk t).birth) ∧ (s.mode = 2 → c ≠ 3 ∧ ∀ v, v < 16 → abB s' v = true → Rival s t r v ∧ (s.tk t).birth < (s.tk v).birth)
theorem told_zero {L : List (Nat × Nat × Nat)} {c : Int} (h : ∀ t, (toldP L c).testBit t = false) : toldP L c = 0 := Nat.eq_of_testBit_eq fun j => by rw [Nat.zero_testBit]; exact h j
theorem AgeR.no {o : Kern.Op} {c : Int} (h : ∀ t, abB s' t = false) (hc : c ≠ 3) : AgeR s o s' c := ⟨fun _ => hc, fun k => absurd (told_zero h) k⟩
theorem age_step {o : Kern.Op} (hB : KB N s) (hi : INV s) (h0 : s.told = []) (ha : AgeS s) (hm : s.mode = 1 ∨ s.mode = 2) : AgeR s o (stepP s o).1 (stepP s o).2.1 := by
  have key : ∀ {s' : KS} {c k : Int}, StepR s o s' c k → AgeR s o s' c := by
    intro s' c k hR
    have wk : ∀ {x : KS}, x.told = [] → ∀ t, abB (wakeP x) t = false := fun h t => by rw [GR.wake.a, abB_nil h]
    have wd : ∀ {x : KS} {t r : Nat} {W : List Nat} {c : Int}, (o.kind = 3 ∨ o.kind = 5) → o.A = t → o.B = r → CallOK s t → r < 20 → W = woundL s t r → W ≠ [] → (∀ v, abB x v = abB (woundS s W) v) → c ≠ 3 → AgeR s o x c := by
      intro x t r W c hk hA hB hc hr hW hWn hx hc3
      have e : woundS s W = wakeP (W.foldl abortP s) := if_neg hWn
      have hmem : ∀ v, v ∈ W → s.mode = 2 ∧ Rival s t r v ∧ (s.tk t).birth < (s.tk v).birth := fun v hv => by rw [hW] at hv; exact (woundL_mem hc.lt).1 hv
      have hab : ∀ v, abB x v = true → v ∈ W := fun v hv => by
        have h2 := (RL.of (s := s) (W := W) h0 (by rw [hW]; exact tasksP_nodup _) (fun x hx => rival_live hi (hmem x hx).2.1)).2 v
        rw [hx, e, h2] at hv
        simpa using hv
      have hm2 : s.mode = 2 := by
        cases W with
        | nil => exact absurd rfl hWn
        | cons v _ => exact (hmem v List.mem_cons_self).1
      refine ⟨fun _ => hc3, fun _ => ⟨t, r, hk, hA, hB, hc.lt, hr, cf_of (by omega) (by omega) hA hc, fun v _ hv => ⟨t, hc.lt, hc.live, (hmem v (hab v hv)).2.2⟩, fun h1 => by omega, fun _ => ⟨hc3, fun v _ hv => (hmem v (hab v hv)).2⟩⟩⟩
    cases hR using StepR.elim with
    | refuse c h0' h1 h3 => exact .no (fun t => abB_nil h0) h3
    | mode hk m hm ha => exact .no (fun t => abB_nil (s := { s with mode := m }) h0) (by decide)
    | born hk t hs => exact .no (fun t' => abB_nil (s := bornS s t) h0) (by decide)
    | declare hk t r u hA hB hC hc hr hu hh => exact .no (fun t' => abB_nil (s := { s with claim := _ }) h0) (by decide)
    | take hk t r u hA hB hC h' hcl W hW ha hat =>
      rcases hW with hW | ⟨hW, hWn, hk35, hat0, hd⟩
      · subst hW
        have e : woundS s [] = s := if_pos rfl
        rw [e]
        exact .no (fun t' => abB_nil (s := grant1 s t r u) h0) (by decide)
      · exact wd hk35 hA hB h'.c h'.hr hW hWn (fun _ => rfl) (by decide)
    | pend hk t r u tim hA hB' hC ht0 htim h' hcl W hW hd' ha0 ha hat =>
      by_cases hWn : W = []
      · subst hWn
        have e : woundS s [] = s := if_pos rfl
        rw [e]
        exact .no (fun t' => by unfold abB; rw [enq_told]; exact abB_nil (s := s) h0) (by decide)
      · exact wd hk hA hB' h'.c h'.hr hW hWn (fun v => by unfold abB; rw [enq_told]) (by decide)
    | die hk t r u hA hB' hC h' hd' ha0 =>
      obtain ⟨hm1, y, hy, hyb⟩ := (dies_iff h'.c.lt).1 hd'
      have h2 := (RL.of (s := s) (W := [t]) h0 (by simp) (fun x hx => by rw [List.mem_singleton.1 hx]; exact h'.c.live)).2
      have h2 : ∀ v, abB (wakeP (abortP s t)) v = decide (v ∈ [t]) := h2
      have e2 : toldP (wakeP (abortP s t)).told 3 = 2 ^ t := Nat.eq_of_testBit_eq fun j => by
        rw [Nat.testBit_two_pow]
        refine Eq.trans (h2 j) ?_
        simp [eq_comm]
      refine ⟨fun k => ?_, fun _ => ⟨t, r, hk, hA, hB', h'.c.lt, h'.hr, cf_of (by omega) (by omega) hA h'.c, fun v _ hv => ?_, fun _ => ⟨e2, rfl, y, hy, hyb⟩, fun h2 => by omega⟩⟩
      · rw [e2] at k
        have := Nat.two_pow_pos t
        omega
      · rw [h2] at hv
        have e : v = t := by simpa using hv
        rw [e]
        exact ⟨y, hy.1, rival_live hi hy, hyb⟩
    | release hk t r hA hB hc hr hn => exact .no (wk h0) (by decide)
    | write hk t c hA hB hc hc12 hh hn => exact .no (fun t' => abB_nil (s := { s with tk := _, cells := _ }) h0) (by decide)
    | commit hk t hA hc => exact .no (fun t' => abB_nil (s := { s with tk := _ }) h0) (by decide)
    | exit hk t hA hc => exact .no (wk h0) (by decide)
    | tick hk h16 => exact .no (fun t' => by unfold tickP; rw [ticks_abB]; exact abB_nil (s := tick0 s) h0) (by decide)
    | detect hk v hv hv16 => have := age_victim ha hm; omega
  exact key (step_R hB hi)
theorem acyc_step {o : Kern.Op} (hB : KB N s) (hi : INV s) (hb : BI s) (ha : AgeS s) (hm : s.mode = 1 ∨ s.mode = 2) : ¬ Pt (Ed (stepP s o).1.held (stepP s o).1.queue) 16 t t := by
  have hs := AgeS.step (o := o) hB hi hb ha
  have key : ∀ {s' : KS} {c k : Int}, StepR s o s' c k → AgeS s' → ¬ Pt (Ed s'.held s'.queue) 16 t t := by
    intro s' c k hR hs
    have sm : s'.mode = s.mode → ¬ Pt (Ed s'.held s'.queue) 16 t t := fun e => age_acyc hs (by rw [e]; exact hm)
    have wm : ∀ {x : KS}, (wakeP x).mode = x.mode := fun {x} => (Core.wake (FL := []) (s := x)).sm.mode
    cases hR using StepR.elim with
    | refuse c h0' h1 h3 => exact sm rfl
    | mode hk m hm' hl =>
      have ho : ∀ {x y k : Nat}, Pt (Ed s.held s.queue) k x y → False := fun h => by
        induction h using Pt.elim with
        | edge h =>
          obtain ⟨p, h1, _⟩ := h
          obtain ⟨g1, g2, _⟩ := waitP_mem h1
          rw [noQ_all hi hl p.1 g1] at g2; cases g2
        | thru c hc _ _ ih1 ih2 => exact ih1
      exact fun h => ho h
    | born hk t hs => exact sm rfl
    | declare hk t r u hA hB hC hc hr hu hh => exact sm rfl
    | take hk t r u hA hB hC h' hcl W hW ha hat => exact sm (Core.wound (FL := []) (wound_lt hW)).sm.mode
    | pend hk t r u tim hA hB' hC ht0 htim h' hcl W hW hd' ha0 ha hat => exact sm (enq_mode.trans (Core.wound (FL := []) (by rw [hW]; exact woundL_lt)).sm.mode)
    | die hk t r u hA hB' hC h' hd' ha0 => exact sm wm
    | release hk t r hA hB' hc hr hn => exact sm wm
    | write hk t c hA hB hc hc12 hh hn => exact sm rfl
    | commit hk t hA hc => exact sm rfl
    | exit hk t hA hc => exact sm wm
    | tick hk h16 => exact sm (Core.tick h16).sm.mode
    | detect hk v hv hv16 => exact sm wm
  exact key (step_R hB hi) hs
theorem told_none {held : Nat → Nat → Nat} {queue : Nat → List (Nat × Nat)} (h : ∀ t, t < 16 → ¬ Pt (Ed held queue) 16 t t) : cycM held queue 16 = 0 := eq16 cycM_lt (by decide) fun t ht => ⟨fun k => absurd ((cycM_bit ht).1 k) (h t ht), fun k => by rw [Nat.zero_testBit] at k; cases k⟩
/-! The walk. -/
theorem age_ok {b1 u bB : Nat} {fs : Nat → Value} (hu : u < 16) (hm : (b1, Row 36 10 fs) ∈ l) (f5 : fs 5 = .pointer (some ⟨bB, 0, none⟩)) (hB : sI bB s qv ∈ l) (st : S0 w0 l w) :
    Calls Tryz.prog 35 #[.int .i64 (u : Nat), .pointer (some ⟨b1, 0, none⟩)] w (Ret fun v w' => v = .int .u64 ((s.tk u).birth : Nat) ∧ S0 w0 l w') := by
  refine enter [.int .i64 (u : Nat), .pointer (some ⟨b1, 0, none⟩)] Tryz.func35 rfl Tryz.ntmps35 rfl ?_
  show WC _ _ _ 12 [] [(0, .int .i64 (u : Nat)), (1, .pointer (some ⟨b1, 0, none⟩))] _
  refine WC.seq fun K2902 hK2902 => ?_
  -- region 0
  refine WC.region ?_
  -- R0.0 3 := graph.go:132 assign
  refine WL.v (by first | exact r_assign (v := .int _ _) rfl | exact r_assign rfl) rfl rfl rfl ?_
  refine WL.fin hK2902 (fun _ _ h => h) ?_
  refine WC.seq fun K2903 hK2903 => ?_
  -- region 1
  refine WC.region ?_
  -- R1.0 4 := graph.go:132 fieldAddr
  refine WL.v (by exact r_field ty_fld36_1 rfl) rfl rfl rfl ?_
  -- R1.1 5 := graph.go:132 load
  refine WL.v (by exact r_load1 (v := .pointer (some ⟨bB, 0, none⟩)) ty_one29 rfl (by rw [← f5]; exact st.cell hm (by decide))) rfl rfl rfl ?_
  -- R1.2 6 := graph.go:132 move
  refine WL.v (by first | exact r_move (v := .int _ _) rfl | exact r_move rfl) rfl rfl rfl ?_
  -- R1.3 7 := graph.go:132 nilCheck
  refine WL.v (by exact r_nilCheck rfl) rfl rfl rfl ?_
  -- R1.4 8 := graph.go:132 fieldAddr
  refine WL.v (by exact r_field ty_fld50_3 rfl) rfl rfl rfl ?_
  -- R1.5 9 := graph.go:132 indexAddr
  refine WL.v (by exact r_indexA (j := u) ty_ar43 rfl rfl rfl hu) rfl rfl rfl ?_
  -- R1.6 10 := graph.go:132 fieldAddr
  refine WL.v (by exact r_field ty_fld42_1 rfl) rfl rfl rfl ?_
  -- R1.7 11 := graph.go:132 load
  refine WL.v (by exact r_load1 (v := .int .u64 ((s.tk u).birth : Nat)) ty_one26 rfl (c_sT hB hu (j := 1) (by decide) (by omega) st)) rfl rfl rfl ?_
  -- R1.8 3 := graph.go:132 assign
  refine WL.v (by first | exact r_assign (v := .int _ _) rfl | exact r_assign rfl) rfl rfl rfl ?_
  refine WL.fin hK2903 (fun _ _ h => h) ?_
  refine WC.ret1 Tryz.results35 (fun _ _ h => h) rfl ?_
  exact ⟨_, rfl, rfl, st⟩
def oldB (s : KS) (u k : Nat) : Bool := allN (fun w => !(s.tk w).live || decide ((s.tk u).birth ≤ (s.tk w).birth)) k
def witB (s : KS) (t : Nat) (L : List Nat) : Bool := L.any fun u => decide ((s.tk u).birth < (s.tk t).birth)
def lawRv (s : KS) (t r : Nat) : Nat := queuedF (holdersP s.held r) (s.queue r) &&& (65535 - 2 ^ t)
theorem lawRv_bit {i : Nat} (ht : t < 16) (hi : i < 16) : (lawRv s t r).testBit i = true ↔ Rival s t r i := by
  unfold lawRv Rival
  rw [Nat.testBit_and, compl_bit hi ht, queuedF_bit, Bool.and_eq_true, Bool.or_eq_true]
  unfold holdersP
  rw [maskP_bit]
  simp only [List.any_eq_true, beq_iff_eq, Bool.not_eq_true', decide_eq_false_iff_not, Bool.and_eq_true, decide_eq_true_eq]
  constructor
  · rintro ⟨h1, h2⟩
    refine ⟨hi, fun e => h2 e.symm, ?_⟩
    rcases h1 with h1 | h1
    · exact .inl h1.2
    · exact .inr h1
  · rintro ⟨_, h1, h2⟩
    refine ⟨?_, fun e => h1 e.symm⟩
    rcases h2 with h2 | h2
    · exact .inl ⟨hi, h2⟩
    · exact .inr h2
theorem once_of (hi : INV s) : Once s.queue := fun t => by
  by_cases ht : t < 16
  · rw [hi.q t ht]; split <;> omega
  · refine Nat.le_trans (Nat.le_of_eq ?_) (Nat.zero_le 1)
    unfold cntP
    rw [sumP_congr (g := fun _ => 0) 20 fun r hr => ?_]
    · rfl
    · refine List.countP_eq_zero.2 fun p hp => ?_
      have := (hi.qt r p hp).2.1
      simp; omega
set_option maxHeartbeats 8000000 in
theorem ages1_ok {o : Kern.Op} {bB bA : Nat} {code task : Int} {ov : Value} {ans : List (Nat × Nat × Nat)}  (hD : gD w0) (h16 : ∀ a, a ∈ ans → a.1 < 16) (hi : INV s) (hi' : INV s') (hcyc : s.mode = 1 ∨ s.mode = 2 → ∀ t, ¬ Pt (Ed s'.held s'.queue) 16 t t) (hR : s.mode = 1 ∨ s.mode = 2 → (toldP ans 3 = 0 → code ≠ 3) ∧ (toldP ans 3 ≠ 0 → ∃ t r : Nat, (o.kind = 3 ∨ o.kind = 5) ∧ o.A = t ∧ o.B = r ∧ t < 16 ∧ r < 20 ∧ cfB s o = true ∧ (∀ v, v < 16 → (toldP ans 3).testBit v = true → ∃ w, w < 16 ∧ (s.tk w).live = true ∧ (s.tk w).birth < (s.tk v).birth) ∧ (s.mode = 1 → toldP ans 3 = 2 ^ t ∧ code = 3 ∧ ∃ u, Rival s t r u ∧ (s.tk u).birth < (s.tk t).birth) ∧ (s.mode = 2 → code ≠ 3 ∧ ∀ v, v < 16 → (toldP ans 3).testBit v = true → Rival s t r v ∧ (s.tk t).birth < (s.tk v).birth))) (hck : CK s s' ans bB bA qv qv' ov l) (st : S0 w0 l w) :
    Calls Tryz.prog 32 #[.agg (stepL o bB bA code task ov).toArray] w (Ret fun v w' => v = .bool true ∧ S0 w0 l w') := by
  obtain ⟨XO, ho, hXO⟩ := hck.a
  obtain ⟨a, c, b, rfl, hc1, hc2, ha, hcell⟩ := ho.form
  obtain ⟨fs, hfs⟩ : ∃ fs : Nat → Value, fs = nth (stepL o bB bA code task (.slice a ans.length c)) := ⟨_, rfl⟩
  have f0 : fs 0 = .int .u8 (o.kind : Nat) := by rw [hfs]; rfl
  have f1 : fs 1 = .int .i64 o.A := by rw [hfs]; rfl
  have f2 : fs 2 = .int .i64 o.B := by rw [hfs]; rfl
  have f3 : fs 3 = .int .i64 o.C := by rw [hfs]; rfl
  have f4 : fs 4 = .int .u64 (o.X : Nat) := by rw [hfs]; rfl
  have f5 : fs 5 = .pointer (some ⟨bB, 0, none⟩) := by rw [hfs]; rfl
  have f6 : fs 6 = .pointer (some ⟨bA, 0, none⟩) := by rw [hfs]; rfl
  have f7 : fs 7 = .int .i64 code := by rw [hfs]; rfl
  have f8 : fs 8 = .int .i64 task := by rw [hfs]; rfl
  have f9 : fs 9 = .slice a ans.length c := by rw [hfs]; rfl
  have hckA := fun (a : HI) => hck.c (a := a)
  have hckB := fun (a b : HI) => (hckA a).c (a := b)
  have hlt3 : toldP ans 3 < 65536 := toldL_lt ans (by decide) h16
  by_cases hm : s.mode = 1 ∨ s.mode = 2
  rotate_left
  · skip
    refine enter [.agg (stepL o bB bA code task (.slice a ans.length c)).toArray] Tryz.func32 rfl Tryz.ntmps32 rfl ?_
    show WC _ _ _ 221 [] [(0, .agg (stepL o bB bA code task (.slice a ans.length c)).toArray)] _
    refine WC.seq fun K2904 hK2904 => ?_
    -- region 0
    refine WC.region ?_
    -- R0.0 1 := graph.go:107 box
    refine WL.box (m := 10) (vs := stepL o bB bA code task (.slice a ans.length c)) st rfl rfl rfl rfl rfl rfl ?_
    intro b1 w st
    have st : S0 w0 ((b1, Row 36 10 fs) :: l) w := by rw [hfs]; exact st
    -- R0.1 2 := graph.go:107 assign
    refine WL.v (by first | exact r_assign (v := .bool _) rfl | exact r_assign rfl) rfl rfl rfl ?_
    refine WL.fin hK2904 (fun _ _ h => h) ?_
    refine WC.seq fun K2905 hK2905 => ?_
    refine WC.seq fun K2906 hK2906 => ?_
    -- region 1
    refine WC.region ?_
    -- R1.0 19 := graph.go:108 fieldAddr
    refine WL.v (by exact r_field ty_fld36_1 rfl) rfl rfl rfl ?_
    -- R1.1 20 := graph.go:108 load
    refine WL.v (by exact r_load1 (v := .pointer (some ⟨bB, 0, none⟩)) ty_one29 rfl (by rw [← f5]; exact st.c0 (by decide))) rfl rfl rfl ?_
    -- R1.2 21 := graph.go:108 nilCheck
    refine WL.v (by exact r_nilCheck rfl) rfl rfl rfl ?_
    -- R1.3 22 := graph.go:108 fieldAddr
    refine WL.v (by exact r_field ty_fld50_0 rfl) rfl rfl rfl ?_
    -- R1.4 23 := graph.go:108 load
    refine WL.v (by exact r_load1 (v := .int .i64 (s.mode : Nat)) ty_one40 rfl (c_s (hckA _).B (by decide) rfl st)) rfl rfl rfl ?_
    -- R1.5 24 := graph.go:108 binOp
    refine WL.v (by exact r_neq rfl rfl (decide_eq_true (by omega))) rfl rfl rfl ?_
    -- R1.6 25 := graph.go:108 move
    refine WL.v (by first | exact r_move (v := .bool _) rfl | exact r_move rfl) rfl rfl rfl ?_
    -- R1.7 26 := graph.go:108 fieldAddr
    refine WL.v (by exact r_field ty_fld36_1 rfl) rfl rfl rfl ?_
    -- R1.8 27 := graph.go:108 load
    refine WL.v (by exact r_load1 (v := .pointer (some ⟨bB, 0, none⟩)) ty_one29 rfl (by rw [← f5]; exact st.c0 (by decide))) rfl rfl rfl ?_
    -- R1.9 28 := graph.go:108 nilCheck
    refine WL.v (by exact r_nilCheck rfl) rfl rfl rfl ?_
    -- R1.10 29 := graph.go:108 fieldAddr
    refine WL.v (by exact r_field ty_fld50_0 rfl) rfl rfl rfl ?_
    -- R1.11 30 := graph.go:108 load
    refine WL.v (by exact r_load1 (v := .int .i64 (s.mode : Nat)) ty_one40 rfl (c_s (hckA _).B (by decide) rfl st)) rfl rfl rfl ?_
    -- R1.12 31 := graph.go:108 binOp
    refine WL.v (by exact r_neq rfl rfl (decide_eq_true (by omega))) rfl rfl rfl ?_
    -- R1.13 32 := graph.go:108 pick
    refine WL.v (by first | exact r_pickT (v := .bool _) rfl rfl | exact r_pickF (v := .bool _) rfl rfl) rfl rfl rfl ?_
    refine WL.fin hK2906 (fun _ _ h => h) ?_
    refine WC.condT rfl rfl ?_
    refine WC.seq fun K2907 hK2907 => ?_
    -- region 2
    refine WC.region ?_
    -- R2.0 2 := graph.go:109 assign
    refine WL.v (by first | exact r_assign (v := .bool _) rfl | exact r_assign rfl) rfl rfl rfl ?_
    refine WL.fin hK2907 (fun _ _ h => h) ?_
    refine WC.ret1 Tryz.results32 (fun _ _ h => h) rfl ?_
    exact ⟨_, rfl, rfl, st.drop⟩
  have hcy : cycM s'.held s'.queue 16 = 0 := told_none fun t ht => hcyc hm t
  obtain ⟨hz, hy⟩ := hR hm
  obtain ⟨back, hback⟩ : ∃ b, b = toldP ans 3 := ⟨_, rfl⟩
  rw [← hback] at hz hy hlt3
  refine enter [.agg (stepL o bB bA code task (.slice a ans.length c)).toArray] Tryz.func32 rfl Tryz.ntmps32 rfl ?_
  show WC _ _ _ 221 [] [(0, .agg (stepL o bB bA code task (.slice a ans.length c)).toArray)] _
  refine WC.seq fun K2908 hK2908 => ?_
  -- region 0
  refine WC.region ?_
  -- R0.0 1 := graph.go:107 box
  refine WL.box (m := 10) (vs := stepL o bB bA code task (.slice a ans.length c)) st rfl rfl rfl rfl rfl rfl ?_
  intro b1 w st
  have st : S0 w0 ((b1, Row 36 10 fs) :: l) w := by rw [hfs]; exact st
  -- R0.1 2 := graph.go:107 assign
  refine WL.v (by first | exact r_assign (v := .bool _) rfl | exact r_assign rfl) rfl rfl rfl ?_
  refine WL.fin hK2908 (fun _ _ h => h) ?_
  refine WC.cut (ι := Unit) (fun _ => [(1, .pointer (some ⟨b1, 0, none⟩))]) (fun _ w' => S0 w0 ((b1, Row 36 10 fs) :: l) w') ?_ ?_
  rotate_left
  · intro KC hKC
    clear hy hz hR
    by_cases hm1 : s.mode = 1
    · skip
      refine WC.seq fun K2909 hK2909 => ?_
      -- region 1
      refine WC.region ?_
      -- R1.0 19 := graph.go:108 fieldAddr
      refine WL.v (by exact r_field ty_fld36_1 rfl) rfl rfl rfl ?_
      -- R1.1 20 := graph.go:108 load
      refine WL.v (by exact r_load1 (v := .pointer (some ⟨bB, 0, none⟩)) ty_one29 rfl (by rw [← f5]; exact st.c0 (by decide))) rfl rfl rfl ?_
      -- R1.2 21 := graph.go:108 nilCheck
      refine WL.v (by exact r_nilCheck rfl) rfl rfl rfl ?_
      -- R1.3 22 := graph.go:108 fieldAddr
      refine WL.v (by exact r_field ty_fld50_0 rfl) rfl rfl rfl ?_
      -- R1.4 23 := graph.go:108 load
      refine WL.v (by exact r_load1 (v := .int .i64 (s.mode : Nat)) ty_one40 rfl (c_s (hckA _).B (by decide) rfl st)) rfl rfl rfl ?_
      -- R1.5 24 := graph.go:108 binOp
      refine WL.v (by exact r_neq rfl rfl (decide_eq_false (by omega))) rfl rfl rfl ?_
      -- R1.6 25 := graph.go:108 move
      refine WL.v (by first | exact r_move (v := .bool _) rfl | exact r_move rfl) rfl rfl rfl ?_
      -- R1.7 26 := graph.go:108 fieldAddr
      refine WL.no rfl rfl ?_
      -- R1.8 27 := graph.go:108 load
      refine WL.no rfl rfl ?_
      -- R1.9 28 := graph.go:108 nilCheck
      refine WL.no rfl rfl ?_
      -- R1.10 29 := graph.go:108 fieldAddr
      refine WL.no rfl rfl ?_
      -- R1.11 30 := graph.go:108 load
      refine WL.no rfl rfl ?_
      -- R1.12 31 := graph.go:108 binOp
      refine WL.no rfl rfl ?_
      -- R1.13 32 := graph.go:108 pick
      refine WL.v (by first | exact r_pickT (v := .bool _) rfl rfl | exact r_pickF (v := .bool _) rfl rfl) rfl rfl rfl ?_
      refine WL.fin hK2909 (fun _ _ h => h) ?_
      refine WC.condF rfl rfl ?_
      refine WC.skipJ hKC (fun _ _ h => h) () st (by repeat (first | exact sub_nil _ | refine sub_cons rfl rfl ?_))
    · skip
      refine WC.seq fun K2910 hK2910 => ?_
      -- region 1
      refine WC.region ?_
      -- R1.0 19 := graph.go:108 fieldAddr
      refine WL.v (by exact r_field ty_fld36_1 rfl) rfl rfl rfl ?_
      -- R1.1 20 := graph.go:108 load
      refine WL.v (by exact r_load1 (v := .pointer (some ⟨bB, 0, none⟩)) ty_one29 rfl (by rw [← f5]; exact st.c0 (by decide))) rfl rfl rfl ?_
      -- R1.2 21 := graph.go:108 nilCheck
      refine WL.v (by exact r_nilCheck rfl) rfl rfl rfl ?_
      -- R1.3 22 := graph.go:108 fieldAddr
      refine WL.v (by exact r_field ty_fld50_0 rfl) rfl rfl rfl ?_
      -- R1.4 23 := graph.go:108 load
      refine WL.v (by exact r_load1 (v := .int .i64 (s.mode : Nat)) ty_one40 rfl (c_s (hckA _).B (by decide) rfl st)) rfl rfl rfl ?_
      -- R1.5 24 := graph.go:108 binOp
      refine WL.v (by exact r_neq rfl rfl (decide_eq_true (by omega))) rfl rfl rfl ?_
      -- R1.6 25 := graph.go:108 move
      refine WL.v (by first | exact r_move (v := .bool _) rfl | exact r_move rfl) rfl rfl rfl ?_
      -- R1.7 26 := graph.go:108 fieldAddr
      refine WL.v (by exact r_field ty_fld36_1 rfl) rfl rfl rfl ?_
      -- R1.8 27 := graph.go:108 load
      refine WL.v (by exact r_load1 (v := .pointer (some ⟨bB, 0, none⟩)) ty_one29 rfl (by rw [← f5]; exact st.c0 (by decide))) rfl rfl rfl ?_
      -- R1.9 28 := graph.go:108 nilCheck
      refine WL.v (by exact r_nilCheck rfl) rfl rfl rfl ?_
      -- R1.10 29 := graph.go:108 fieldAddr
      refine WL.v (by exact r_field ty_fld50_0 rfl) rfl rfl rfl ?_
      -- R1.11 30 := graph.go:108 load
      refine WL.v (by exact r_load1 (v := .int .i64 (s.mode : Nat)) ty_one40 rfl (c_s (hckA _).B (by decide) rfl st)) rfl rfl rfl ?_
      -- R1.12 31 := graph.go:108 binOp
      refine WL.v (by exact r_neq rfl rfl (decide_eq_false (by omega))) rfl rfl rfl ?_
      -- R1.13 32 := graph.go:108 pick
      refine WL.v (by first | exact r_pickT (v := .bool _) rfl rfl | exact r_pickF (v := .bool _) rfl rfl) rfl rfl rfl ?_
      refine WL.fin hK2910 (fun _ _ h => h) ?_
      refine WC.condF rfl rfl ?_
      refine WC.skipJ hKC (fun _ _ h => h) () st (by repeat (first | exact sub_nil _ | refine sub_cons rfl rfl ?_))
  clear st
  rintro _ w st
  by_cases hb0 : back = 0
  · have hz := hz hb0
    refine WC.seq fun K2911 hK2911 => ?_
    refine WC.seq fun K2912 hK2912 => ?_
    -- region 3
    refine WC.region ?_
    -- R3.0 33 := graph.go:111 fieldAddr
    refine WL.v (by exact r_field ty_fld36_2 rfl) rfl rfl rfl ?_
    -- R3.1 34 := graph.go:111 load
    refine WL.v (by exact r_load1 (v := .pointer (some ⟨bA, 0, none⟩)) ty_one29 rfl (by rw [← f6]; exact st.c0 (by decide))) rfl rfl rfl ?_
    -- R3.2 35 := graph.go:111 call
    refine WL.call (r_call ty_call26 rfl) rfl rfl rfl (onCycleL_ok (once_of hi') (fun r p hp => (hi'.qt r p hp).2.1) (hckA _).A (hckA _).q' st) ?_
    rintro _ w ⟨rfl, st⟩
    -- R3.3 36 := graph.go:111 binOp
    refine WL.v (by exact r_neq rfl rfl (decide_eq_false (by rw [hcy]; simp))) rfl rfl rfl ?_
    refine WL.fin hK2912 (fun _ _ h => h) ?_
    refine WC.condF rfl rfl ?_
    refine WC.skipF hK2911 (fun _ _ h => h) ?_
    refine WC.seq fun K2913 hK2913 => ?_
    -- region 5
    refine WC.region ?_
    -- R5.0 37 := graph.go:114 load
    refine WL.v (by exact r_loadL (vs := stepL o bB bA code task (.slice a ans.length c)) ty_agg36 rfl ⟨(st.c0 (by decide)).trans (congrArg some f0), (st.c0 (by decide)).trans (congrArg some f1), (st.c0 (by decide)).trans (congrArg some f2), (st.c0 (by decide)).trans (congrArg some f3), (st.c0 (by decide)).trans (congrArg some f4), (st.c0 (by decide)).trans (congrArg some f5), (st.c0 (by decide)).trans (congrArg some f6), (st.c0 (by decide)).trans (congrArg some f7), (st.c0 (by decide)).trans (congrArg some f8), (st.c0 (by decide)).trans (congrArg some f9), trivial⟩) rfl rfl rfl ?_
    -- R5.1 38 := graph.go:114 call
    refine WL.call (r_call ty_call29 rfl) rfl rfl rfl (told_ok (o := o) (cd := 3) (hck.c) h16 st) ?_
    rintro _ w ⟨he, st⟩
    rw [← hback] at he
    subst he
    -- R5.2 3 := graph.go:114 assign
    refine WL.v (by first | exact r_assign (v := .int _ _) rfl | exact r_assign rfl) rfl rfl rfl ?_
    refine WL.fin hK2913 (fun _ _ h => h) ?_
    refine WC.seq fun K2914 hK2914 => ?_
    refine WC.seq fun K2915 hK2915 => ?_
    -- region 6
    refine WC.region ?_
    -- R6.0 39 := graph.go:115 move
    refine WL.v (by first | exact r_move (v := .int _ _) rfl | exact r_move rfl) rfl rfl rfl ?_
    -- R6.1 40 := graph.go:115 binOp
    refine WL.v (by exact r_eql rfl rfl (decide_eq_true (by rw [hb0]; rfl))) rfl rfl rfl ?_
    refine WL.fin hK2915 (fun _ _ h => h) ?_
    refine WC.condT rfl rfl ?_
    refine WC.seq fun K2916 hK2916 => ?_
    -- region 7
    refine WC.region ?_
    -- R7.0 41 := graph.go:116 fieldAddr
    refine WL.v (by exact r_field ty_fld36_3 rfl) rfl rfl rfl ?_
    -- R7.1 42 := graph.go:116 fieldAddr
    refine WL.v (by exact r_field ty_fld34_0 rfl) rfl rfl rfl ?_
    -- R7.2 43 := graph.go:116 load
    refine WL.v (by exact r_load1 (v := .int .i64 code) ty_one30 rfl (by rw [← f7]; exact st.c0 (by decide))) rfl rfl rfl ?_
    -- R7.3 44 := graph.go:116 binOp
    refine WL.v (by exact r_neq rfl rfl (decide_eq_true hz)) rfl rfl rfl ?_
    -- R7.4 2 := graph.go:116 assign
    refine WL.v (by first | exact r_assign (v := .bool _) rfl | exact r_assign rfl) rfl rfl rfl ?_
    refine WL.fin hK2916 (fun _ _ h => h) ?_
    refine WC.ret1 Tryz.results32 (fun _ _ h => h) rfl ?_
    exact ⟨_, rfl, rfl, st.drop⟩
  obtain ⟨t, r, hk35, hA, hBr, ht16, hr20, hF, hold, h1, h2⟩ := hy hb0
  have hT : cfT o = (t : Int) := by obtain ⟨t', _, e1, e2, _⟩ := cf_T hF; rw [e2, ← e1, hA]
  refine WC.seq fun K2917 hK2917 => ?_
  refine WC.seq fun K2918 hK2918 => ?_
  -- region 3
  refine WC.region ?_
  -- R3.0 33 := graph.go:111 fieldAddr
  refine WL.v (by exact r_field ty_fld36_2 rfl) rfl rfl rfl ?_
  -- R3.1 34 := graph.go:111 load
  refine WL.v (by exact r_load1 (v := .pointer (some ⟨bA, 0, none⟩)) ty_one29 rfl (by rw [← f6]; exact st.c0 (by decide))) rfl rfl rfl ?_
  -- R3.2 35 := graph.go:111 call
  refine WL.call (r_call ty_call26 rfl) rfl rfl rfl (onCycleL_ok (once_of hi') (fun r p hp => (hi'.qt r p hp).2.1) (hckA _).A (hckA _).q' st) ?_
  rintro _ w ⟨rfl, st⟩
  -- R3.3 36 := graph.go:111 binOp
  refine WL.v (by exact r_neq rfl rfl (decide_eq_false (by rw [hcy]; simp))) rfl rfl rfl ?_
  refine WL.fin hK2918 (fun _ _ h => h) ?_
  refine WC.condF rfl rfl ?_
  refine WC.skipF hK2917 (fun _ _ h => h) ?_
  refine WC.seq fun K2919 hK2919 => ?_
  -- region 5
  refine WC.region ?_
  -- R5.0 37 := graph.go:114 load
  refine WL.v (by exact r_loadL (vs := stepL o bB bA code task (.slice a ans.length c)) ty_agg36 rfl ⟨(st.c0 (by decide)).trans (congrArg some f0), (st.c0 (by decide)).trans (congrArg some f1), (st.c0 (by decide)).trans (congrArg some f2), (st.c0 (by decide)).trans (congrArg some f3), (st.c0 (by decide)).trans (congrArg some f4), (st.c0 (by decide)).trans (congrArg some f5), (st.c0 (by decide)).trans (congrArg some f6), (st.c0 (by decide)).trans (congrArg some f7), (st.c0 (by decide)).trans (congrArg some f8), (st.c0 (by decide)).trans (congrArg some f9), trivial⟩) rfl rfl rfl ?_
  -- R5.1 38 := graph.go:114 call
  refine WL.call (r_call ty_call29 rfl) rfl rfl rfl (told_ok (o := o) (cd := 3) (hck.c) h16 st) ?_
  rintro _ w ⟨he, st⟩
  rw [← hback] at he
  subst he
  -- R5.2 3 := graph.go:114 assign
  refine WL.v (by first | exact r_assign (v := .int _ _) rfl | exact r_assign rfl) rfl rfl rfl ?_
  refine WL.fin hK2919 (fun _ _ h => h) ?_
  refine WC.seq fun K2920 hK2920 => ?_
  refine WC.seq fun K2921 hK2921 => ?_
  -- region 6
  refine WC.region ?_
  -- R6.0 39 := graph.go:115 move
  refine WL.v (by first | exact r_move (v := .int _ _) rfl | exact r_move rfl) rfl rfl rfl ?_
  -- R6.1 40 := graph.go:115 binOp
  refine WL.v (by exact r_eql rfl rfl (decide_eq_false (by clear hR hy h1 h2 hold; omega))) rfl rfl rfl ?_
  refine WL.fin hK2921 (fun _ _ h => h) ?_
  refine WC.condF rfl rfl ?_
  refine WC.skipF hK2920 (fun _ _ h => h) ?_
  refine WC.seq fun K2922 hK2922 => ?_
  -- region 8
  refine WC.region ?_
  -- R8.0 46 := graph.go:118 load
  refine WL.v (by exact r_loadL (vs := stepL o bB bA code task (.slice a ans.length c)) ty_agg36 rfl ⟨(st.c0 (by decide)).trans (congrArg some f0), (st.c0 (by decide)).trans (congrArg some f1), (st.c0 (by decide)).trans (congrArg some f2), (st.c0 (by decide)).trans (congrArg some f3), (st.c0 (by decide)).trans (congrArg some f4), (st.c0 (by decide)).trans (congrArg some f5), (st.c0 (by decide)).trans (congrArg some f6), (st.c0 (by decide)).trans (congrArg some f7), (st.c0 (by decide)).trans (congrArg some f8), (st.c0 (by decide)).trans (congrArg some f9), trivial⟩) rfl rfl rfl ?_
  -- R8.1 47 := graph.go:118 call
  refine WL.call (r_call ty_call33 rfl) rfl rfl rfl (callerL_ok (o := o) (List.mem_cons_of_mem _ hck.B) rfl st) ?_
  rintro _ w ⟨he, st⟩
  rw [hF, hT] at he
  subst he
  -- R8.2 45 := graph.go:118 move
  refine WL.v (by first | exact r_move (v := .tuple _) rfl | exact r_move rfl) rfl rfl rfl ?_
  -- R8.3 48 := graph.go:118 extract
  refine WL.v (by first | exact r_extract (v := .int _ _) rfl rfl | exact r_extract rfl rfl) rfl rfl rfl ?_
  -- R8.4 49 := graph.go:118 extract
  refine WL.v (by first | exact r_extract (v := .bool _) rfl rfl | exact r_extract rfl rfl) rfl rfl rfl ?_
  -- R8.5 4 := graph.go:118 assign
  refine WL.v (by first | exact r_assign (v := .int _ _) rfl | exact r_assign rfl) rfl rfl rfl ?_
  -- R8.6 5 := graph.go:118 assign
  refine WL.v (by first | exact r_assign (v := .bool _) rfl | exact r_assign rfl) rfl rfl rfl ?_
  refine WL.fin hK2922 (fun _ _ h => h) ?_
  refine WC.cut (ι := Unit) (fun _ => [(1, .pointer (some ⟨b1, 0, none⟩)), (3, .int .u16 (back : Nat)), (4, .int .i64 (t : Nat))]) (fun _ w' => S0 w0 ((b1, Row 36 10 fs) :: l) w') ?_ ?_
  rotate_left
  · intro KC hKC
    rcases hk35 with hk | hk
    · skip
      refine WC.seq fun K2923 hK2923 => ?_
      -- region 9
      refine WC.region ?_
      -- R9.0 50 := graph.go:119 move
      refine WL.v (by first | exact r_move (v := .bool _) rfl | exact r_move rfl) rfl rfl rfl ?_
      -- R9.1 51 := graph.go:119 unOp
      refine WL.v (by first | exact r_notT rfl | exact r_notF rfl | exact r_not rfl) rfl rfl rfl ?_
      -- R9.2 52 := graph.go:119 move
      refine WL.v (by first | exact r_move (v := .bool _) rfl | exact r_move rfl) rfl rfl rfl ?_
      -- R9.3 53 := graph.go:119 fieldAddr
      refine WL.v (by exact r_field ty_fld36_0 rfl) rfl rfl rfl ?_
      -- R9.4 54 := graph.go:119 fieldAddr
      refine WL.v (by exact r_field ty_fld28_0 rfl) rfl rfl rfl ?_
      -- R9.5 55 := graph.go:119 load
      refine WL.v (by exact r_load1 (v := .int .u8 (o.kind : Nat)) ty_one25 rfl (by rw [← f0]; exact st.c0 (by decide))) rfl rfl rfl ?_
      -- R9.6 56 := graph.go:119 binOp
      refine WL.v (by exact r_neq rfl rfl (decide_eq_false (by omega))) rfl rfl rfl ?_
      -- R9.7 57 := graph.go:119 move
      refine WL.v (by first | exact r_move (v := .bool _) rfl | exact r_move rfl) rfl rfl rfl ?_
      -- R9.8 58 := graph.go:119 fieldAddr
      refine WL.no rfl rfl ?_
      -- R9.9 59 := graph.go:119 fieldAddr
      refine WL.no rfl rfl ?_
      -- R9.10 60 := graph.go:119 load
      refine WL.no rfl rfl ?_
      -- R9.11 61 := graph.go:119 binOp
      refine WL.no rfl rfl ?_
      -- R9.12 62 := graph.go:119 pick
      refine WL.v (by first | exact r_pickT (v := .bool _) rfl rfl | exact r_pickF (v := .bool _) rfl rfl) rfl rfl rfl ?_
      -- R9.13 63 := graph.go:119 pick
      refine WL.v (by first | exact r_pickT (v := .bool _) rfl rfl | exact r_pickF (v := .bool _) rfl rfl) rfl rfl rfl ?_
      -- R9.14 64 := graph.go:119 move
      refine WL.v (by first | exact r_move (v := .bool _) rfl | exact r_move rfl) rfl rfl rfl ?_
      -- R9.15 65 := graph.go:119 fieldAddr
      refine WL.v (by exact r_field ty_fld36_0 rfl) rfl rfl rfl ?_
      -- R9.16 66 := graph.go:119 fieldAddr
      refine WL.v (by exact r_field ty_fld28_2 rfl) rfl rfl rfl ?_
      -- R9.17 67 := graph.go:119 load
      refine WL.v (by exact r_load1 (v := .int .i64 o.B) ty_one2 rfl (by rw [← f2]; exact st.c0 (by decide))) rfl rfl rfl ?_
      -- R9.18 68 := graph.go:119 call
      refine WL.call (r_call ty_call34 rfl) rfl rfl rfl (within_ok (v := o.B) (n := 20) st) ?_
      rintro _ w ⟨he, st⟩
      have he : _ = Value.bool true := he.trans (by unfold wiP; rw [decide_eq_true (by omega)])
      subst he
      -- R9.19 69 := graph.go:119 unOp
      refine WL.v (by first | exact r_notT rfl | exact r_notF rfl | exact r_not rfl) rfl rfl rfl ?_
      -- R9.20 70 := graph.go:119 pick
      refine WL.v (by first | exact r_pickT (v := .bool _) rfl rfl | exact r_pickF (v := .bool _) rfl rfl) rfl rfl rfl ?_
      refine WL.fin hK2923 (fun _ _ h => h) ?_
      refine WC.condF rfl rfl ?_
      refine WC.skipJ hKC (fun _ _ h => h) () st (by repeat (first | exact sub_nil _ | refine sub_cons rfl rfl ?_))
    · skip
      refine WC.seq fun K2924 hK2924 => ?_
      -- region 9
      refine WC.region ?_
      -- R9.0 50 := graph.go:119 move
      refine WL.v (by first | exact r_move (v := .bool _) rfl | exact r_move rfl) rfl rfl rfl ?_
      -- R9.1 51 := graph.go:119 unOp
      refine WL.v (by first | exact r_notT rfl | exact r_notF rfl | exact r_not rfl) rfl rfl rfl ?_
      -- R9.2 52 := graph.go:119 move
      refine WL.v (by first | exact r_move (v := .bool _) rfl | exact r_move rfl) rfl rfl rfl ?_
      -- R9.3 53 := graph.go:119 fieldAddr
      refine WL.v (by exact r_field ty_fld36_0 rfl) rfl rfl rfl ?_
      -- R9.4 54 := graph.go:119 fieldAddr
      refine WL.v (by exact r_field ty_fld28_0 rfl) rfl rfl rfl ?_
      -- R9.5 55 := graph.go:119 load
      refine WL.v (by exact r_load1 (v := .int .u8 (o.kind : Nat)) ty_one25 rfl (by rw [← f0]; exact st.c0 (by decide))) rfl rfl rfl ?_
      -- R9.6 56 := graph.go:119 binOp
      refine WL.v (by exact r_neq rfl rfl (decide_eq_true (by omega))) rfl rfl rfl ?_
      -- R9.7 57 := graph.go:119 move
      refine WL.v (by first | exact r_move (v := .bool _) rfl | exact r_move rfl) rfl rfl rfl ?_
      -- R9.8 58 := graph.go:119 fieldAddr
      refine WL.v (by exact r_field ty_fld36_0 rfl) rfl rfl rfl ?_
      -- R9.9 59 := graph.go:119 fieldAddr
      refine WL.v (by exact r_field ty_fld28_0 rfl) rfl rfl rfl ?_
      -- R9.10 60 := graph.go:119 load
      refine WL.v (by exact r_load1 (v := .int .u8 (o.kind : Nat)) ty_one25 rfl (by rw [← f0]; exact st.c0 (by decide))) rfl rfl rfl ?_
      -- R9.11 61 := graph.go:119 binOp
      refine WL.v (by exact r_neq rfl rfl (decide_eq_false (by omega))) rfl rfl rfl ?_
      -- R9.12 62 := graph.go:119 pick
      refine WL.v (by first | exact r_pickT (v := .bool _) rfl rfl | exact r_pickF (v := .bool _) rfl rfl) rfl rfl rfl ?_
      -- R9.13 63 := graph.go:119 pick
      refine WL.v (by first | exact r_pickT (v := .bool _) rfl rfl | exact r_pickF (v := .bool _) rfl rfl) rfl rfl rfl ?_
      -- R9.14 64 := graph.go:119 move
      refine WL.v (by first | exact r_move (v := .bool _) rfl | exact r_move rfl) rfl rfl rfl ?_
      -- R9.15 65 := graph.go:119 fieldAddr
      refine WL.v (by exact r_field ty_fld36_0 rfl) rfl rfl rfl ?_
      -- R9.16 66 := graph.go:119 fieldAddr
      refine WL.v (by exact r_field ty_fld28_2 rfl) rfl rfl rfl ?_
      -- R9.17 67 := graph.go:119 load
      refine WL.v (by exact r_load1 (v := .int .i64 o.B) ty_one2 rfl (by rw [← f2]; exact st.c0 (by decide))) rfl rfl rfl ?_
      -- R9.18 68 := graph.go:119 call
      refine WL.call (r_call ty_call34 rfl) rfl rfl rfl (within_ok (v := o.B) (n := 20) st) ?_
      rintro _ w ⟨he, st⟩
      have he : _ = Value.bool true := he.trans (by unfold wiP; rw [decide_eq_true (by omega)])
      subst he
      -- R9.19 69 := graph.go:119 unOp
      refine WL.v (by first | exact r_notT rfl | exact r_notF rfl | exact r_not rfl) rfl rfl rfl ?_
      -- R9.20 70 := graph.go:119 pick
      refine WL.v (by first | exact r_pickT (v := .bool _) rfl rfl | exact r_pickF (v := .bool _) rfl rfl) rfl rfl rfl ?_
      refine WL.fin hK2924 (fun _ _ h => h) ?_
      refine WC.condF rfl rfl ?_
      refine WC.skipJ hKC (fun _ _ h => h) () st (by repeat (first | exact sub_nil _ | refine sub_cons rfl rfl ?_))
  clear st
  rintro _ w st
  refine WC.seq fun K2925 hK2925 => ?_
  -- region 11
  refine WC.region ?_
  -- R11.0 6 := graph.go:122 assign
  refine WL.v (by first | exact r_assign (v := .int _ _) rfl | exact r_assign rfl) rfl rfl rfl ?_
  refine WL.fin hK2925 (fun _ _ h => h) ?_
  refine WC.seq fun K2926 hK2926 => ?_
  refine WC.seq fun K2927 hK2927 => ?_
  -- region 12
  refine WC.region ?_
  -- R12.0 71 := graph.go:123 move
  refine WL.v (by first | exact r_move (v := .int _ _) rfl | exact r_move rfl) rfl rfl rfl ?_
  refine WL.fin hK2927 (fun _ _ h => h) ?_
  refine WC.block ?_
  refine WC.loop (ι := Nat) (fun k => [(1, .pointer (some ⟨b1, 0, none⟩)), (3, .int .u16 (back : Nat)), (4, .int .i64 (t : Nat)), (6, .int .u16 (maskP (fun u => decide (0 < s.held u r)) k : Nat)), (71, .int .i64 (k : Nat))])
    (fun k w' => k ≤ 16 ∧ S0 w0 ((b1, Row 36 10 fs) :: l) w') (fun k => 16 - k) 0 ⟨Nat.zero_le _, st⟩ ?_ ?_
  · skip
    repeat (first | exact sub_nil _ | refine sub_cons rfl rfl ?_)
  clear st
  rintro k w ⟨hk, st⟩ K1 hK1
  by_cases hk16 : k = 16
  rotate_left
  · have hk' : k < 16 := by omega
    have hlt : maskP (fun u => decide (0 < s.held u r)) k < 65536 := maskP_lt _ k (by omega)
    have e : maskP (fun u => decide (0 < s.held u r)) (k + 1) = if decide (0 < s.held k r) then maskP (fun u => decide (0 < s.held u r)) k ||| 2 ^ k else maskP (fun u => decide (0 < s.held u r)) k := rfl
    by_cases hp : 0 < s.held k r
    · rw [decide_eq_true hp, if_pos rfl] at e
      refine WC.seq fun K2928 hK2928 => ?_
      -- region 13
      refine WC.region ?_
      -- R13.0 72 := graph.go:123 binOp
      refine WL.v (by first | exact r_lss rfl rfl (decide_eq_true (by omega)) | exact r_lss rfl rfl (decide_eq_false (by omega)) | exact r_lss rfl rfl rfl) rfl rfl rfl ?_
      refine WL.fin hK2928 (fun _ _ h => h) ?_
      refine WC.seq fun K2929 hK2929 => ?_
      refine WC.condT rfl rfl ?_
      refine WC.skipF hK2929 (fun _ _ h => h) ?_
      refine WC.seq fun K2930 hK2930 => ?_
      refine WC.block ?_
      refine WC.seq fun K2931 hK2931 => ?_
      -- region 14
      refine WC.region ?_
      -- R14.0 73 := graph.go:123 move
      refine WL.v (by first | exact r_move (v := .int _ _) rfl | exact r_move rfl) rfl rfl rfl ?_
      -- R14.1 7 := graph.go:123 assign
      refine WL.v (by first | exact r_assign (v := .int _ _) rfl | exact r_assign rfl) rfl rfl rfl ?_
      refine WL.fin hK2931 (fun _ _ h => h) ?_
      refine WC.seq fun K2932 hK2932 => ?_
      -- region 15 (draws)
      refine WC.quietS st ty_mixed (by kernel_rfl) fun Kq hKq => ?_
      -- R15.0 74 := graph.go:124 fieldAddr
      refine QL.v (fun w st => by exact r_field ty_fld36_1 rfl) rfl rfl rfl ?_
      -- R15.1 75 := graph.go:124 load
      refine QL.v (fun w st => by exact r_load1 (v := .pointer (some ⟨bB, 0, none⟩)) ty_one29 rfl (by rw [← f5]; exact st.c0 (by decide))) rfl rfl rfl ?_
      -- R15.2 76 := graph.go:124 move
      refine QL.v (fun w st => by first | exact r_move (v := .int _ _) rfl | exact r_move rfl) rfl rfl rfl ?_
      -- R15.3 77 := graph.go:124 fieldAddr
      refine QL.v (fun w st => by exact r_field ty_fld36_0 rfl) rfl rfl rfl ?_
      -- R15.4 78 := graph.go:124 fieldAddr
      refine QL.v (fun w st => by exact r_field ty_fld28_2 rfl) rfl rfl rfl ?_
      -- R15.5 79 := graph.go:124 load
      refine QL.v (fun w st => by exact r_load1 (v := .int .i64 (r : Nat)) ty_one2 rfl (by rw [← hBr, ← f2]; exact st.c0 (by decide))) rfl rfl rfl ?_
      -- R15.6 80 := graph.go:124 nilCheck
      refine QL.v (fun w st => by exact r_nilCheck rfl) rfl rfl rfl ?_
      -- R15.7 81 := graph.go:124 fieldAddr
      refine QL.v (fun w st => by exact r_field ty_fld50_4 rfl) rfl rfl rfl ?_
      -- R15.8 82 := graph.go:124 indexAddr
      refine QL.v (fun w st => by exact r_indexA (j := k) ty_ar45 rfl rfl rfl hk') rfl rfl rfl ?_
      -- R15.9 83 := graph.go:124 indexAddr
      refine QL.v (fun w st => by exact r_indexA (j := r) ty_ar44 rfl rfl rfl hr20) rfl rfl rfl ?_
      -- R15.10 84 := graph.go:124 load
      refine QL.v (fun w st => by exact r_load1 (v := .int .i64 (s.held k r : Nat)) ty_one3 rfl (c_sH (hckA _).B hk' hr20 (by omega) st)) rfl rfl rfl ?_
      -- R15.11 85 := graph.go:124 binOp
      refine QL.v (fun w st => by exact r_gtr rfl rfl (decide_eq_true (by omega))) rfl rfl rfl ?_
      refine QL.wl hKq fun w st => ?_
      refine WL.fin hK2932 (fun _ _ h => h) ?_
      refine WC.condT rfl rfl ?_
      -- region 16
      refine WC.region ?_
      -- R16.0 86 := graph.go:125 move
      refine WL.v (by first | exact r_move (v := .int _ _) rfl | exact r_move rfl) rfl rfl rfl ?_
      -- R16.1 87 := graph.go:125 move
      refine WL.v (by first | exact r_move (v := .int _ _) rfl | exact r_move rfl) rfl rfl rfl ?_
      -- R16.2 88 := graph.go:125 call
      refine WL.call (r_call ty_call30 rfl) rfl rfl rfl (bit_ok hk' st) ?_
      rintro _ w ⟨rfl, st⟩
      -- R16.3 89 := graph.go:125 binOp
      refine WL.v (by exact r_or (r := ((maskP (fun u => decide (0 < s.held u r)) k ||| 2 ^ k : Nat) : Int)) rfl rfl (or16 hlt (pow16 hk'))) rfl rfl rfl ?_
      -- R16.4 6 := graph.go:125 assign
      refine WL.v (by first | exact r_assign (v := .int _ _) rfl | exact r_assign rfl) rfl rfl rfl ?_
      refine WL.fin hK2930 (fun _ _ h => h) ?_
      -- region 17
      refine WC.region ?_
      -- R17.0 90 := graph.go:123 binOp
      refine WL.v (by first | exact r_add rfl rfl (wi64 (by omega) (by omega)) | exact r_add rfl rfl rfl) rfl rfl rfl ?_
      -- R17.1 71 := graph.go:123 move
      refine WL.v (by first | exact r_move (v := .int _ _) rfl | exact r_move rfl) rfl rfl rfl ?_
      refine WL.next hK1 (fun _ _ h => h) (k + 1) ⟨hk', st⟩ (by omega) (by rw [e]; repeat (first | exact sub_nil _ | refine sub_cons rfl rfl ?_))
    · rw [decide_eq_false hp, if_neg (by decide)] at e
      refine WC.seq fun K2933 hK2933 => ?_
      -- region 13
      refine WC.region ?_
      -- R13.0 72 := graph.go:123 binOp
      refine WL.v (by first | exact r_lss rfl rfl (decide_eq_true (by omega)) | exact r_lss rfl rfl (decide_eq_false (by omega)) | exact r_lss rfl rfl rfl) rfl rfl rfl ?_
      refine WL.fin hK2933 (fun _ _ h => h) ?_
      refine WC.seq fun K2934 hK2934 => ?_
      refine WC.condT rfl rfl ?_
      refine WC.skipF hK2934 (fun _ _ h => h) ?_
      refine WC.seq fun K2935 hK2935 => ?_
      refine WC.block ?_
      refine WC.seq fun K2936 hK2936 => ?_
      -- region 14
      refine WC.region ?_
      -- R14.0 73 := graph.go:123 move
      refine WL.v (by first | exact r_move (v := .int _ _) rfl | exact r_move rfl) rfl rfl rfl ?_
      -- R14.1 7 := graph.go:123 assign
      refine WL.v (by first | exact r_assign (v := .int _ _) rfl | exact r_assign rfl) rfl rfl rfl ?_
      refine WL.fin hK2936 (fun _ _ h => h) ?_
      refine WC.seq fun K2937 hK2937 => ?_
      -- region 15 (draws)
      refine WC.quietS st ty_mixed (by kernel_rfl) fun Kq hKq => ?_
      -- R15.0 74 := graph.go:124 fieldAddr
      refine QL.v (fun w st => by exact r_field ty_fld36_1 rfl) rfl rfl rfl ?_
      -- R15.1 75 := graph.go:124 load
      refine QL.v (fun w st => by exact r_load1 (v := .pointer (some ⟨bB, 0, none⟩)) ty_one29 rfl (by rw [← f5]; exact st.c0 (by decide))) rfl rfl rfl ?_
      -- R15.2 76 := graph.go:124 move
      refine QL.v (fun w st => by first | exact r_move (v := .int _ _) rfl | exact r_move rfl) rfl rfl rfl ?_
      -- R15.3 77 := graph.go:124 fieldAddr
      refine QL.v (fun w st => by exact r_field ty_fld36_0 rfl) rfl rfl rfl ?_
      -- R15.4 78 := graph.go:124 fieldAddr
      refine QL.v (fun w st => by exact r_field ty_fld28_2 rfl) rfl rfl rfl ?_
      -- R15.5 79 := graph.go:124 load
      refine QL.v (fun w st => by exact r_load1 (v := .int .i64 (r : Nat)) ty_one2 rfl (by rw [← hBr, ← f2]; exact st.c0 (by decide))) rfl rfl rfl ?_
      -- R15.6 80 := graph.go:124 nilCheck
      refine QL.v (fun w st => by exact r_nilCheck rfl) rfl rfl rfl ?_
      -- R15.7 81 := graph.go:124 fieldAddr
      refine QL.v (fun w st => by exact r_field ty_fld50_4 rfl) rfl rfl rfl ?_
      -- R15.8 82 := graph.go:124 indexAddr
      refine QL.v (fun w st => by exact r_indexA (j := k) ty_ar45 rfl rfl rfl hk') rfl rfl rfl ?_
      -- R15.9 83 := graph.go:124 indexAddr
      refine QL.v (fun w st => by exact r_indexA (j := r) ty_ar44 rfl rfl rfl hr20) rfl rfl rfl ?_
      -- R15.10 84 := graph.go:124 load
      refine QL.v (fun w st => by exact r_load1 (v := .int .i64 (s.held k r : Nat)) ty_one3 rfl (c_sH (hckA _).B hk' hr20 (by omega) st)) rfl rfl rfl ?_
      -- R15.11 85 := graph.go:124 binOp
      refine QL.v (fun w st => by exact r_gtr rfl rfl (decide_eq_false (by omega))) rfl rfl rfl ?_
      refine QL.wl hKq fun w st => ?_
      refine WL.fin hK2937 (fun _ _ h => h) ?_
      refine WC.condF rfl rfl ?_
      refine WC.skipF hK2935 (fun _ _ h => h) ?_
      -- region 17
      refine WC.region ?_
      -- R17.0 90 := graph.go:123 binOp
      refine WL.v (by first | exact r_add rfl rfl (wi64 (by omega) (by omega)) | exact r_add rfl rfl rfl) rfl rfl rfl ?_
      -- R17.1 71 := graph.go:123 move
      refine WL.v (by first | exact r_move (v := .int _ _) rfl | exact r_move rfl) rfl rfl rfl ?_
      refine WL.next hK1 (fun _ _ h => h) (k + 1) ⟨hk', st⟩ (by omega) (by rw [e]; repeat (first | exact sub_nil _ | refine sub_cons rfl rfl ?_))
  subst hk16
  have ehold : maskP (fun u => decide (0 < s.held u r)) 16 = holdersP s.held r := rfl
  have hhl : holdersP s.held r < 65536 := maskP_lt _ 16 (Nat.le_refl _)
  obtain ⟨X1, hX1, hXs⟩ := hck.q r hr20
  obtain ⟨aq, cq, bq, hvq, hq1, hq2, hqa, hqcell⟩ := hX1.form
  refine WC.seq fun K2938 hK2938 => ?_
  -- region 13
  refine WC.region ?_
  -- R13.0 72 := graph.go:123 binOp
  refine WL.v (by first | exact r_lss rfl rfl (decide_eq_true (by omega)) | exact r_lss rfl rfl (decide_eq_false (by omega)) | exact r_lss rfl rfl rfl) rfl rfl rfl ?_
  refine WL.fin hK2938 (fun _ _ h => h) ?_
  refine WC.seq fun K2939 hK2939 => ?_
  refine WC.condF rfl rfl ?_
  refine WC.exitF hK2926 (fun _ _ h => h) ?_
  refine WC.seq fun K2940 hK2940 => ?_
  refine WC.seq fun K2941 hK2941 => ?_
  -- region 18 (draws)
  refine WC.quietS st ty_mixed (by kernel_rfl) fun Kq hKq => ?_
  -- R18.0 91 := graph.go:128 fieldAddr
  refine QL.v (fun w st => by exact r_field ty_fld36_1 rfl) rfl rfl rfl ?_
  -- R18.1 92 := graph.go:128 load
  refine QL.v (fun w st => by exact r_load1 (v := .pointer (some ⟨bB, 0, none⟩)) ty_one29 rfl (by rw [← f5]; exact st.c0 (by decide))) rfl rfl rfl ?_
  -- R18.2 93 := graph.go:128 fieldAddr
  refine QL.v (fun w st => by exact r_field ty_fld36_0 rfl) rfl rfl rfl ?_
  -- R18.3 94 := graph.go:128 fieldAddr
  refine QL.v (fun w st => by exact r_field ty_fld28_2 rfl) rfl rfl rfl ?_
  -- R18.4 95 := graph.go:128 load
  refine QL.v (fun w st => by exact r_load1 (v := .int .i64 (r : Nat)) ty_one2 rfl (by rw [← hBr, ← f2]; exact st.c0 (by decide))) rfl rfl rfl ?_
  -- R18.5 96 := graph.go:128 nilCheck
  refine QL.v (fun w st => by exact r_nilCheck rfl) rfl rfl rfl ?_
  -- R18.6 97 := graph.go:128 fieldAddr
  refine QL.v (fun w st => by exact r_field ty_fld50_6 rfl) rfl rfl rfl ?_
  -- R18.7 98 := graph.go:128 indexAddr
  refine QL.v (fun w st => by exact r_indexA (j := r) ty_ar47 rfl rfl rfl hr20) rfl rfl rfl ?_
  -- R18.8 99 := graph.go:128 load
  refine QL.v (fun w st => by exact r_load1 (v := .slice aq (s.queue r).length cq) ty_one46 rfl (by rw [← hvq]; exact c_sQ (hckA _).B hr20 (by omega) st)) rfl rfl rfl ?_
  -- R18.9 100 := graph.go:128 call
  refine QL.v (fun w st => by exact r_len ty_usl46 rfl) rfl rfl rfl ?_
  -- R18.10 101 := graph.go:128 move
  refine QL.v (fun w st => by first | exact r_move (v := .int _ _) rfl | exact r_move rfl) rfl rfl rfl ?_
  refine QL.wl hKq fun w st => ?_
  refine WL.fin hK2941 (fun _ _ h => h) ?_
  refine WC.block ?_
  refine WC.loop (ι := Nat) (fun k => [(1, .pointer (some ⟨b1, 0, none⟩)), (3, .int .u16 (back : Nat)), (4, .int .i64 (t : Nat)), (6, .int .u16 (queuedF (holdersP s.held r) ((s.queue r).take k) : Nat)), (99, .slice aq (s.queue r).length cq), (100, .int .i64 ((s.queue r).length : Nat)), (101, .int .i64 (k : Nat))])
    (fun k w' => k ≤ (s.queue r).length ∧ S0 w0 ((b1, Row 36 10 fs) :: l) w') (fun k => (s.queue r).length - k) 0 ⟨Nat.zero_le _, st⟩ ?_ ?_
  · skip
    repeat (first | exact sub_nil _ | refine sub_cons rfl rfl ?_)
  clear st
  rintro k w ⟨hk, st⟩ K2 hK2
  have hqt : ∀ k p, p ∈ (s.queue r).take k → p.1 < 16 := fun k p hp => (hi.qt r p (List.mem_of_mem_take hp)).2.1
  by_cases hkl : k = (s.queue r).length
  rotate_left
  · have hkl' : k < (s.queue r).length := by omega
    obtain ⟨q, he⟩ : ∃ e, (s.queue r)[k]? = some e := ⟨(s.queue r)[k], List.getElem?_eq_getElem hkl'⟩
    have hq16' := (hi.qt r q (List.mem_of_getElem? he)).2.1
    have hae := hqa (by omega)
    have hlt := queuedF_lt (Q := (s.queue r).take k) hhl (hqt k)
    have e : queuedF (holdersP s.held r) ((s.queue r).take (k + 1)) = queuedF (holdersP s.held r) ((s.queue r).take k) ||| 2 ^ q.1 := by
      rw [List.take_add_one, he]
      unfold queuedF
      rw [List.foldl_append]; rfl
    have hce := fun j hj => hqcell st (fun x hx => List.mem_cons_of_mem _ (hXs hx)) k q he j hj
    refine WC.seq fun K2942 hK2942 => ?_
    -- region 19
    refine WC.region ?_
    -- R19.0 102 := graph.go:128 binOp
    refine WL.v (by first | exact r_lss rfl rfl (decide_eq_true (by omega)) | exact r_lss rfl rfl (decide_eq_false (by omega)) | exact r_lss rfl rfl rfl) rfl rfl rfl ?_
    refine WL.fin hK2942 (fun _ _ h => h) ?_
    refine WC.seq fun K2943 hK2943 => ?_
    refine WC.condT rfl rfl ?_
    refine WC.skipF hK2943 (fun _ _ h => h) ?_
    refine WC.seq fun K2944 hK2944 => ?_
    refine WC.block ?_
    refine WC.seq fun K2945 hK2945 => ?_
    -- region 20
    refine WC.region ?_
    -- R20.0 103 := graph.go:128 indexAddr
    refine WL.v (by exact r_indexS (j := k) ty_sl46 (congrArg (fun x => Value.slice x (s.queue r).length cq) hae) rfl rfl (by omega)) rfl rfl rfl ?_
    -- R20.1 104 := graph.go:128 load
    refine WL.v (by exact r_loadL (vs := [.int .i64 (q.1 : Nat), .int .i64 (q.2 : Nat)]) ty_agg61 rfl ⟨by rw [Nat.zero_add]; exact hce 0 (by decide), by rw [Nat.zero_add]; exact hce 1 (by decide), trivial⟩) rfl rfl rfl ?_
    -- R20.2 9 := graph.go:128 alloc
    refine WL.alloc (m := 2) st ty_zero61 rfl rfl rfl ?_
    intro b9 w st
    -- R20.3 None := graph.go:128 store
    first | refine WL.storeW (vs := [_, _]) st ty_agg61 rfl rfl rfl rfl rfl rfl ?_ | refine WL.storeL (vs := [_, _]) st ty_agg61 rfl rfl rfl rfl (by first | decide | omega) rfl rfl ?_ | refine WL.storeW (vs := [_, _]) st.front1 ty_agg61 rfl rfl rfl rfl rfl rfl ?_ | refine WL.storeL (vs := [_, _]) st.front1 ty_agg61 rfl rfl rfl rfl (by first | decide | omega) rfl rfl ?_ | refine WL.storeW (vs := [_, _]) st.front2 ty_agg61 rfl rfl rfl rfl rfl rfl ?_ | refine WL.storeL (vs := [_, _]) st.front2 ty_agg61 rfl rfl rfl rfl (by first | decide | omega) rfl rfl ?_ | refine WL.storeW (vs := [_, _]) st.front3 ty_agg61 rfl rfl rfl rfl rfl rfl ?_ | refine WL.storeL (vs := [_, _]) st.front3 ty_agg61 rfl rfl rfl rfl (by first | decide | omega) rfl rfl ?_ | refine WL.storeW (vs := [_, _]) st.front4 ty_agg61 rfl rfl rfl rfl rfl rfl ?_ | refine WL.storeL (vs := [_, _]) st.front4 ty_agg61 rfl rfl rfl rfl (by first | decide | omega) rfl rfl ?_ | refine WL.storeW (vs := [_, _]) st.front5 ty_agg61 rfl rfl rfl rfl rfl rfl ?_ | refine WL.storeL (vs := [_, _]) st.front5 ty_agg61 rfl rfl rfl rfl (by first | decide | omega) rfl rfl ?_ | refine WL.storeW (vs := [_, _]) st.front6 ty_agg61 rfl rfl rfl rfl rfl rfl ?_ | refine WL.storeL (vs := [_, _]) st.front6 ty_agg61 rfl rfl rfl rfl (by first | decide | omega) rfl rfl ?_ | refine WL.storeW (vs := [_, _]) st.front7 ty_agg61 rfl rfl rfl rfl rfl rfl ?_ | refine WL.storeL (vs := [_, _]) st.front7 ty_agg61 rfl rfl rfl rfl (by first | decide | omega) rfl rfl ?_ | refine WL.storeW (vs := [_, _]) st.front8 ty_agg61 rfl rfl rfl rfl rfl rfl ?_ | refine WL.storeL (vs := [_, _]) st.front8 ty_agg61 rfl rfl rfl rfl (by first | decide | omega) rfl rfl ?_
    intro w st
    refine WL.fin hK2945 (fun _ _ h => h) ?_
    -- region 21
    refine WC.region ?_
    -- R21.0 105 := graph.go:129 move
    refine WL.v (by first | exact r_move (v := .int _ _) rfl | exact r_move rfl) rfl rfl rfl ?_
    -- R21.1 106 := graph.go:129 fieldAddr
    refine WL.v (by exact r_field ty_fld61_0 rfl) rfl rfl rfl ?_
    -- R21.2 107 := graph.go:129 load
    refine WL.v (by exact r_load1 (v := .int .i64 (q.1 : Nat)) ty_one31 rfl (st.c0 (by decide))) rfl rfl rfl ?_
    -- R21.3 108 := graph.go:129 call
    refine WL.call (r_call ty_call30 rfl) rfl rfl rfl (bit_ok hq16' st) ?_
    rintro _ w ⟨rfl, st⟩
    -- R21.4 109 := graph.go:129 binOp
    refine WL.v (by exact r_or (r := ((queuedF (holdersP s.held r) ((s.queue r).take k) ||| 2 ^ q.1 : Nat) : Int)) rfl rfl (or16 hlt (pow16 hq16'))) rfl rfl rfl ?_
    -- R21.5 6 := graph.go:129 assign
    refine WL.v (by first | exact r_assign (v := .int _ _) rfl | exact r_assign rfl) rfl rfl rfl ?_
    refine WL.fin hK2944 (fun _ _ h => h) ?_
    -- region 22
    refine WC.region ?_
    -- R22.0 110 := graph.go:128 binOp
    refine WL.v (by first | exact r_add rfl rfl (wi64 (by omega) (by omega)) | exact r_add rfl rfl rfl) rfl rfl rfl ?_
    -- R22.1 101 := graph.go:128 move
    refine WL.v (by first | exact r_move (v := .int _ _) rfl | exact r_move rfl) rfl rfl rfl ?_
    refine WL.next hK2 (fun _ _ h => h) (k + 1) ⟨hkl', st.drop⟩ (by omega) (by rw [e]; repeat (first | exact sub_nil _ | refine sub_cons rfl rfl ?_))
  subst hkl
  obtain ⟨rv, hrv⟩ : ∃ rv, rv = lawRv s t r := ⟨_, rfl⟩
  have hrvl : rv < 65536 := by
    rw [hrv]
    have := queuedF_lt hhl (fun p hp => (hi.qt r p hp).2.1) (Q := s.queue r)
    exact andlt this
  have hrvb : ∀ i, i < 16 → (rv.testBit i = true ↔ Rival s t r i) := fun i hi => by rw [hrv]; exact lawRv_bit ht16 hi
  refine WC.seq fun K2946 hK2946 => ?_
  -- region 19
  refine WC.region ?_
  -- R19.0 102 := graph.go:128 binOp
  refine WL.v (by first | exact r_lss rfl rfl (decide_eq_true (by omega)) | exact r_lss rfl rfl (decide_eq_false (by omega)) | exact r_lss rfl rfl rfl) rfl rfl rfl ?_
  refine WL.fin hK2946 (fun _ _ h => h) ?_
  refine WC.seq fun K2947 hK2947 => ?_
  refine WC.condF rfl rfl ?_
  refine WC.exitF hK2940 (fun _ _ h => h) ?_
  refine WC.seq fun K2948 hK2948 => ?_
  -- region 23
  refine WC.region ?_
  -- R23.0 111 := graph.go:131 move
  refine WL.v (by first | exact r_move (v := .int _ _) rfl | exact r_move rfl) rfl rfl rfl ?_
  -- R23.1 112 := graph.go:131 move
  refine WL.v (by first | exact r_move (v := .int _ _) rfl | exact r_move rfl) rfl rfl rfl ?_
  -- R23.2 113 := graph.go:131 call
  refine WL.call (r_call ty_call30 rfl) rfl rfl rfl (bit_ok ht16 st) ?_
  rintro _ w ⟨rfl, st⟩
  -- R23.3 114 := graph.go:131 binOp
  refine WL.v (by exact r_andNot (r := (rv : Nat)) rfl rfl ((andNot16 (x := queuedF (holdersP s.held r) ((s.queue r).take (s.queue r).length)) (queuedF_lt hhl (hqt _)) (pow16 ht16)).trans (by rw [hrv]; unfold lawRv; rw [List.take_length]))) rfl rfl rfl ?_
  -- R23.4 6 := graph.go:131 assign
  refine WL.v (by first | exact r_assign (v := .int _ _) rfl | exact r_assign rfl) rfl rfl rfl ?_
  refine WL.fin hK2948 (fun _ _ h => h) ?_
  refine WC.seq fun K2949 hK2949 => ?_
  -- region 24
  refine WC.region ?_
  -- R24.0 115 := graph.go:132 makeFunc
  refine WL.v (by exact r_mkfn rfl rfl) rfl rfl rfl ?_
  -- R24.1 10 := graph.go:132 assign
  refine WL.v (by first | exact r_assign (v := .func _ _ _) rfl | exact r_assign (v := .nilFunc) rfl | exact r_assign rfl) rfl rfl rfl ?_
  refine WL.fin hK2949 (fun _ _ h => h) ?_
  refine WC.seq fun K2950 hK2950 => ?_
  refine WC.seq fun K2951 hK2951 => ?_
  -- region 25
  refine WC.region ?_
  -- R25.0 116 := graph.go:133 move
  refine WL.v (by first | exact r_move (v := .int _ _) rfl | exact r_move rfl) rfl rfl rfl ?_
  refine WL.fin hK2951 (fun _ _ h => h) ?_
  refine WC.block ?_
  refine WC.loop (ι := Nat) (fun k => [(1, .pointer (some ⟨b1, 0, none⟩)), (3, .int .u16 (back : Nat)), (4, .int .i64 (t : Nat)), (6, .int .u16 (rv : Nat)), (10, .func (.func 35) #[] #[.pointer (some ⟨b1, 0, none⟩)]), (116, .int .i64 (k : Nat))])
    (fun k w' => k ≤ 16 ∧ S0 w0 ((b1, Row 36 10 fs) :: l) w') (fun k => 16 - k) 0 ⟨Nat.zero_le _, st⟩ ?_ ?_
  · skip
    repeat (first | exact sub_nil _ | refine sub_cons rfl rfl ?_)
  clear st
  rintro k w ⟨hk, st⟩ K3 hK3
  have hmR : ∀ {X : List HI}, (b1, Row 36 10 fs) ∈ X ++ ((b1, Row 36 10 fs) :: l) := List.mem_append_right _ List.mem_cons_self
  by_cases hk16 : k = 16
  rotate_left
  · have hk' : k < 16 := by omega
    rcases hl : (s.tk k).live with _ | _
    · skip
      refine WC.seq fun K2952 hK2952 => ?_
      -- region 26
      refine WC.region ?_
      -- R26.0 117 := graph.go:133 binOp
      refine WL.v (by first | exact r_lss rfl rfl (decide_eq_true (by omega)) | exact r_lss rfl rfl (decide_eq_false (by omega)) | exact r_lss rfl rfl rfl) rfl rfl rfl ?_
      refine WL.fin hK2952 (fun _ _ h => h) ?_
      refine WC.seq fun K2953 hK2953 => ?_
      refine WC.condT rfl rfl ?_
      refine WC.skipF hK2953 (fun _ _ h => h) ?_
      refine WC.seq fun K2954 hK2954 => ?_
      refine WC.block ?_
      refine WC.seq fun K2955 hK2955 => ?_
      -- region 27
      refine WC.region ?_
      -- R27.0 118 := graph.go:133 move
      refine WL.v (by first | exact r_move (v := .int _ _) rfl | exact r_move rfl) rfl rfl rfl ?_
      -- R27.1 11 := graph.go:133 assign
      refine WL.v (by first | exact r_assign (v := .int _ _) rfl | exact r_assign rfl) rfl rfl rfl ?_
      refine WL.fin hK2955 (fun _ _ h => h) ?_
      refine WC.seq fun K2956 hK2956 => ?_
      -- region 28
      refine WC.region ?_
      -- R28.0 119 := graph.go:134 fieldAddr
      refine WL.v (by exact r_field ty_fld36_1 rfl) rfl rfl rfl ?_
      -- R28.1 120 := graph.go:134 load
      refine WL.v (by exact r_load1 (v := .pointer (some ⟨bB, 0, none⟩)) ty_one29 rfl (by rw [← f5]; exact st.c0 (by decide))) rfl rfl rfl ?_
      -- R28.2 121 := graph.go:134 move
      refine WL.v (by first | exact r_move (v := .int _ _) rfl | exact r_move rfl) rfl rfl rfl ?_
      -- R28.3 122 := graph.go:134 nilCheck
      refine WL.v (by exact r_nilCheck rfl) rfl rfl rfl ?_
      -- R28.4 123 := graph.go:134 fieldAddr
      refine WL.v (by exact r_field ty_fld50_3 rfl) rfl rfl rfl ?_
      -- R28.5 124 := graph.go:134 indexAddr
      refine WL.v (by exact r_indexA (j := k) ty_ar43 rfl rfl rfl hk') rfl rfl rfl ?_
      -- R28.6 125 := graph.go:134 fieldAddr
      refine WL.v (by exact r_field ty_fld42_0 rfl) rfl rfl rfl ?_
      -- R28.7 126 := graph.go:134 load
      refine WL.v (by exact r_load1 (v := .bool false) ty_one4 rfl (by rw [← hl]; exact c_sT (hckA _).B hk' (j := 0) (by decide) (by omega) st)) rfl rfl rfl ?_
      -- R28.8 127 := graph.go:134 move
      refine WL.v (by first | exact r_move (v := .bool _) rfl | exact r_move rfl) rfl rfl rfl ?_
      -- R28.9 128 := graph.go:134 move
      refine WL.no rfl rfl ?_
      -- R28.10 129 := graph.go:134 move
      refine WL.no rfl rfl ?_
      -- R28.11 130 := graph.go:134 call
      refine WL.no rfl rfl ?_
      -- R28.12 131 := graph.go:134 pick
      refine WL.v (by first | exact r_pickT (v := .bool _) rfl rfl | exact r_pickF (v := .bool _) rfl rfl) rfl rfl rfl ?_
      refine WL.fin hK2956 (fun _ _ h => h) ?_
      refine WC.condF rfl rfl ?_
      refine WC.skipF hK2954 (fun _ _ h => h) ?_
      -- region 37
      refine WC.region ?_
      -- R37.0 158 := graph.go:133 binOp
      refine WL.v (by first | exact r_add rfl rfl (wi64 (by omega) (by omega)) | exact r_add rfl rfl rfl) rfl rfl rfl ?_
      -- R37.1 116 := graph.go:133 move
      refine WL.v (by first | exact r_move (v := .int _ _) rfl | exact r_move rfl) rfl rfl rfl ?_
      refine WL.next hK3 (fun _ _ h => h) (k + 1) ⟨hk', st⟩ (by omega) (by repeat (first | exact sub_nil _ | refine sub_cons rfl rfl ?_))
    rcases hbit : back.testBit k with _ | _
    · skip
      refine WC.seq fun K2957 hK2957 => ?_
      -- region 26
      refine WC.region ?_
      -- R26.0 117 := graph.go:133 binOp
      refine WL.v (by first | exact r_lss rfl rfl (decide_eq_true (by omega)) | exact r_lss rfl rfl (decide_eq_false (by omega)) | exact r_lss rfl rfl rfl) rfl rfl rfl ?_
      refine WL.fin hK2957 (fun _ _ h => h) ?_
      refine WC.seq fun K2958 hK2958 => ?_
      refine WC.condT rfl rfl ?_
      refine WC.skipF hK2958 (fun _ _ h => h) ?_
      refine WC.seq fun K2959 hK2959 => ?_
      refine WC.block ?_
      refine WC.seq fun K2960 hK2960 => ?_
      -- region 27
      refine WC.region ?_
      -- R27.0 118 := graph.go:133 move
      refine WL.v (by first | exact r_move (v := .int _ _) rfl | exact r_move rfl) rfl rfl rfl ?_
      -- R27.1 11 := graph.go:133 assign
      refine WL.v (by first | exact r_assign (v := .int _ _) rfl | exact r_assign rfl) rfl rfl rfl ?_
      refine WL.fin hK2960 (fun _ _ h => h) ?_
      refine WC.seq fun K2961 hK2961 => ?_
      -- region 28
      refine WC.region ?_
      -- R28.0 119 := graph.go:134 fieldAddr
      refine WL.v (by exact r_field ty_fld36_1 rfl) rfl rfl rfl ?_
      -- R28.1 120 := graph.go:134 load
      refine WL.v (by exact r_load1 (v := .pointer (some ⟨bB, 0, none⟩)) ty_one29 rfl (by rw [← f5]; exact st.c0 (by decide))) rfl rfl rfl ?_
      -- R28.2 121 := graph.go:134 move
      refine WL.v (by first | exact r_move (v := .int _ _) rfl | exact r_move rfl) rfl rfl rfl ?_
      -- R28.3 122 := graph.go:134 nilCheck
      refine WL.v (by exact r_nilCheck rfl) rfl rfl rfl ?_
      -- R28.4 123 := graph.go:134 fieldAddr
      refine WL.v (by exact r_field ty_fld50_3 rfl) rfl rfl rfl ?_
      -- R28.5 124 := graph.go:134 indexAddr
      refine WL.v (by exact r_indexA (j := k) ty_ar43 rfl rfl rfl hk') rfl rfl rfl ?_
      -- R28.6 125 := graph.go:134 fieldAddr
      refine WL.v (by exact r_field ty_fld42_0 rfl) rfl rfl rfl ?_
      -- R28.7 126 := graph.go:134 load
      refine WL.v (by exact r_load1 (v := .bool true) ty_one4 rfl (by rw [← hl]; exact c_sT (hckA _).B hk' (j := 0) (by decide) (by omega) st)) rfl rfl rfl ?_
      -- R28.8 127 := graph.go:134 move
      refine WL.v (by first | exact r_move (v := .bool _) rfl | exact r_move rfl) rfl rfl rfl ?_
      -- R28.9 128 := graph.go:134 move
      refine WL.v (by first | exact r_move (v := .int _ _) rfl | exact r_move rfl) rfl rfl rfl ?_
      -- R28.10 129 := graph.go:134 move
      refine WL.v (by first | exact r_move (v := .int _ _) rfl | exact r_move rfl) rfl rfl rfl ?_
      -- R28.11 130 := graph.go:134 call
      refine WL.call (r_call ty_call28 rfl) rfl rfl rfl (has_ok hlt3 hk' st) ?_
      rintro _ w ⟨he, st⟩
      rw [hbit] at he
      subst he
      -- R28.12 131 := graph.go:134 pick
      refine WL.v (by first | exact r_pickT (v := .bool _) rfl rfl | exact r_pickF (v := .bool _) rfl rfl) rfl rfl rfl ?_
      refine WL.fin hK2961 (fun _ _ h => h) ?_
      refine WC.condF rfl rfl ?_
      refine WC.skipF hK2959 (fun _ _ h => h) ?_
      -- region 37
      refine WC.region ?_
      -- R37.0 158 := graph.go:133 binOp
      refine WL.v (by first | exact r_add rfl rfl (wi64 (by omega) (by omega)) | exact r_add rfl rfl rfl) rfl rfl rfl ?_
      -- R37.1 116 := graph.go:133 move
      refine WL.v (by first | exact r_move (v := .int _ _) rfl | exact r_move rfl) rfl rfl rfl ?_
      refine WL.next hK3 (fun _ _ h => h) (k + 1) ⟨hk', st⟩ (by omega) (by repeat (first | exact sub_nil _ | refine sub_cons rfl rfl ?_))
    have hfin : oldB s k 16 = false := by
      obtain ⟨y, hy16, hyl, hyb⟩ := hold k hk' hbit
      refine allN_no hy16 ?_
      rw [hyl, decide_eq_false (by omega)]; rfl
    refine WC.seq fun K2962 hK2962 => ?_
    -- region 26
    refine WC.region ?_
    -- R26.0 117 := graph.go:133 binOp
    refine WL.v (by first | exact r_lss rfl rfl (decide_eq_true (by omega)) | exact r_lss rfl rfl (decide_eq_false (by omega)) | exact r_lss rfl rfl rfl) rfl rfl rfl ?_
    refine WL.fin hK2962 (fun _ _ h => h) ?_
    refine WC.seq fun K2963 hK2963 => ?_
    refine WC.condT rfl rfl ?_
    refine WC.skipF hK2963 (fun _ _ h => h) ?_
    refine WC.seq fun K2964 hK2964 => ?_
    refine WC.block ?_
    refine WC.seq fun K2965 hK2965 => ?_
    -- region 27
    refine WC.region ?_
    -- R27.0 118 := graph.go:133 move
    refine WL.v (by first | exact r_move (v := .int _ _) rfl | exact r_move rfl) rfl rfl rfl ?_
    -- R27.1 11 := graph.go:133 assign
    refine WL.v (by first | exact r_assign (v := .int _ _) rfl | exact r_assign rfl) rfl rfl rfl ?_
    refine WL.fin hK2965 (fun _ _ h => h) ?_
    refine WC.seq fun K2966 hK2966 => ?_
    -- region 28
    refine WC.region ?_
    -- R28.0 119 := graph.go:134 fieldAddr
    refine WL.v (by exact r_field ty_fld36_1 rfl) rfl rfl rfl ?_
    -- R28.1 120 := graph.go:134 load
    refine WL.v (by exact r_load1 (v := .pointer (some ⟨bB, 0, none⟩)) ty_one29 rfl (by rw [← f5]; exact st.c0 (by decide))) rfl rfl rfl ?_
    -- R28.2 121 := graph.go:134 move
    refine WL.v (by first | exact r_move (v := .int _ _) rfl | exact r_move rfl) rfl rfl rfl ?_
    -- R28.3 122 := graph.go:134 nilCheck
    refine WL.v (by exact r_nilCheck rfl) rfl rfl rfl ?_
    -- R28.4 123 := graph.go:134 fieldAddr
    refine WL.v (by exact r_field ty_fld50_3 rfl) rfl rfl rfl ?_
    -- R28.5 124 := graph.go:134 indexAddr
    refine WL.v (by exact r_indexA (j := k) ty_ar43 rfl rfl rfl hk') rfl rfl rfl ?_
    -- R28.6 125 := graph.go:134 fieldAddr
    refine WL.v (by exact r_field ty_fld42_0 rfl) rfl rfl rfl ?_
    -- R28.7 126 := graph.go:134 load
    refine WL.v (by exact r_load1 (v := .bool true) ty_one4 rfl (by rw [← hl]; exact c_sT (hckA _).B hk' (j := 0) (by decide) (by omega) st)) rfl rfl rfl ?_
    -- R28.8 127 := graph.go:134 move
    refine WL.v (by first | exact r_move (v := .bool _) rfl | exact r_move rfl) rfl rfl rfl ?_
    -- R28.9 128 := graph.go:134 move
    refine WL.v (by first | exact r_move (v := .int _ _) rfl | exact r_move rfl) rfl rfl rfl ?_
    -- R28.10 129 := graph.go:134 move
    refine WL.v (by first | exact r_move (v := .int _ _) rfl | exact r_move rfl) rfl rfl rfl ?_
    -- R28.11 130 := graph.go:134 call
    refine WL.call (r_call ty_call28 rfl) rfl rfl rfl (has_ok hlt3 hk' st) ?_
    rintro _ w ⟨he, st⟩
    rw [hbit] at he
    subst he
    -- R28.12 131 := graph.go:134 pick
    refine WL.v (by first | exact r_pickT (v := .bool _) rfl rfl | exact r_pickF (v := .bool _) rfl rfl) rfl rfl rfl ?_
    refine WL.fin hK2966 (fun _ _ h => h) ?_
    refine WC.condT rfl rfl ?_
    refine WC.seq fun K2967 hK2967 => ?_
    -- region 29
    refine WC.region ?_
    -- R29.0 12 := graph.go:135 assign
    refine WL.v (by first | exact r_assign (v := .bool _) rfl | exact r_assign rfl) rfl rfl rfl ?_
    refine WL.fin hK2967 (fun _ _ h => h) ?_
    refine WC.seq fun K2968 hK2968 => ?_
    refine WC.seq fun K2969 hK2969 => ?_
    -- region 30
    refine WC.region ?_
    -- R30.0 132 := graph.go:136 move
    refine WL.v (by first | exact r_move (v := .int _ _) rfl | exact r_move rfl) rfl rfl rfl ?_
    refine WL.fin hK2969 (fun _ _ h => h) ?_
    refine WC.block ?_
    refine WC.loop (ι := Nat) (fun j => [(1, .pointer (some ⟨b1, 0, none⟩)), (3, .int .u16 (back : Nat)), (4, .int .i64 (t : Nat)), (6, .int .u16 (rv : Nat)), (10, .func (.func 35) #[] #[.pointer (some ⟨b1, 0, none⟩)]), (116, .int .i64 (k : Nat)), (11, .int .i64 (k : Nat)), (12, .bool (oldB s k j)), (132, .int .i64 (j : Nat))])
      (fun j w' => j ≤ 16 ∧ S0 w0 ((b1, Row 36 10 fs) :: l) w') (fun j => 16 - j) 0 ⟨Nat.zero_le _, st⟩ ?_ ?_
    · skip
      repeat (first | exact sub_nil _ | refine sub_cons rfl rfl ?_)
    clear st
    rintro j w ⟨hj, st⟩ K4 hK4
    by_cases hj16 : j = 16
    · subst hj16
      refine WC.seq fun K2970 hK2970 => ?_
      -- region 31
      refine WC.region ?_
      -- R31.0 133 := graph.go:136 binOp
      refine WL.v (by first | exact r_lss rfl rfl (decide_eq_true (by omega)) | exact r_lss rfl rfl (decide_eq_false (by omega)) | exact r_lss rfl rfl rfl) rfl rfl rfl ?_
      refine WL.fin hK2970 (fun _ _ h => h) ?_
      refine WC.seq fun K2971 hK2971 => ?_
      refine WC.condF rfl rfl ?_
      refine WC.exitF hK2968 (fun _ _ h => h) ?_
      refine WC.seq fun K2972 hK2972 => ?_
      -- region 35
      refine WC.region ?_
      -- R35.0 157 := graph.go:139 move
      refine WL.v (by exact r_move (v := .bool false) (congrArg Value.bool hfin)) rfl rfl rfl ?_
      refine WL.fin hK2972 (fun _ _ h => h) ?_
      refine WC.condF rfl rfl ?_
      refine WC.skipF hK2964 (fun _ _ h => h) ?_
      -- region 37
      refine WC.region ?_
      -- R37.0 158 := graph.go:133 binOp
      refine WL.v (by first | exact r_add rfl rfl (wi64 (by omega) (by omega)) | exact r_add rfl rfl rfl) rfl rfl rfl ?_
      -- R37.1 116 := graph.go:133 move
      refine WL.v (by first | exact r_move (v := .int _ _) rfl | exact r_move rfl) rfl rfl rfl ?_
      refine WL.next hK3 (fun _ _ h => h) (k + 1) ⟨hk', st⟩ (by omega) (by repeat (first | exact sub_nil _ | refine sub_cons rfl rfl ?_))
    have hj' : j < 16 := by omega
    have e : oldB s k (j + 1) = (oldB s k j && (!(s.tk j).live || decide ((s.tk k).birth ≤ (s.tk j).birth))) := allN_succ
    rcases ho : oldB s k j with _ | _
    · rw [ho, Bool.false_and] at e
      refine WC.seq fun K2973 hK2973 => ?_
      -- region 31
      refine WC.region ?_
      -- R31.0 133 := graph.go:136 binOp
      refine WL.v (by first | exact r_lss rfl rfl (decide_eq_true (by omega)) | exact r_lss rfl rfl (decide_eq_false (by omega)) | exact r_lss rfl rfl rfl) rfl rfl rfl ?_
      refine WL.fin hK2973 (fun _ _ h => h) ?_
      refine WC.seq fun K2974 hK2974 => ?_
      refine WC.condT rfl rfl ?_
      refine WC.skipF hK2974 (fun _ _ h => h) ?_
      refine WC.seq fun K2975 hK2975 => ?_
      refine WC.block ?_
      refine WC.seq fun K2976 hK2976 => ?_
      -- region 32
      refine WC.region ?_
      -- R32.0 134 := graph.go:136 move
      refine WL.v (by first | exact r_move (v := .int _ _) rfl | exact r_move rfl) rfl rfl rfl ?_
      -- R32.1 13 := graph.go:136 assign
      refine WL.v (by first | exact r_assign (v := .int _ _) rfl | exact r_assign rfl) rfl rfl rfl ?_
      refine WL.fin hK2976 (fun _ _ h => h) ?_
      -- region 33
      refine WC.region ?_
      -- R33.0 135 := graph.go:137 move
      refine WL.v (by first | exact r_move (v := .bool _) rfl | exact r_move rfl) rfl rfl rfl ?_
      -- R33.1 136 := graph.go:137 move
      refine WL.v (by first | exact r_move (v := .bool _) rfl | exact r_move rfl) rfl rfl rfl ?_
      -- R33.2 137 := graph.go:137 fieldAddr
      refine WL.no rfl rfl ?_
      -- R33.3 138 := graph.go:137 load
      refine WL.no rfl rfl ?_
      -- R33.4 139 := graph.go:137 move
      refine WL.no rfl rfl ?_
      -- R33.5 140 := graph.go:137 nilCheck
      refine WL.no rfl rfl ?_
      -- R33.6 141 := graph.go:137 fieldAddr
      refine WL.no rfl rfl ?_
      -- R33.7 142 := graph.go:137 indexAddr
      refine WL.no rfl rfl ?_
      -- R33.8 143 := graph.go:137 fieldAddr
      refine WL.no rfl rfl ?_
      -- R33.9 144 := graph.go:137 load
      refine WL.no rfl rfl ?_
      -- R33.10 145 := graph.go:137 unOp
      refine WL.no rfl rfl ?_
      -- R33.11 146 := graph.go:137 move
      refine WL.no rfl rfl ?_
      -- R33.12 147 := graph.go:137 move
      refine WL.no rfl rfl ?_
      -- R33.13 148 := graph.go:137 move
      refine WL.no rfl rfl ?_
      -- R33.14 149 := graph.go:137 call
      refine WL.no rfl rfl ?_
      -- R33.15 150 := graph.go:137 move
      refine WL.no rfl rfl ?_
      -- R33.16 151 := graph.go:137 move
      refine WL.no rfl rfl ?_
      -- R33.17 152 := graph.go:137 call
      refine WL.no rfl rfl ?_
      -- R33.18 153 := graph.go:137 binOp
      refine WL.no rfl rfl ?_
      -- R33.19 154 := graph.go:137 pick
      refine WL.no rfl rfl ?_
      -- R33.20 155 := graph.go:137 pick
      refine WL.v (by first | exact r_pickT (v := .bool _) rfl rfl | exact r_pickF (v := .bool _) rfl rfl) rfl rfl rfl ?_
      -- R33.21 12 := graph.go:137 assign
      refine WL.v (by first | exact r_assign (v := .bool _) rfl | exact r_assign rfl) rfl rfl rfl ?_
      refine WL.fin hK2975 (fun _ _ h => h) ?_
      -- region 34
      refine WC.region ?_
      -- R34.0 156 := graph.go:136 binOp
      refine WL.v (by first | exact r_add rfl rfl (wi64 (by omega) (by omega)) | exact r_add rfl rfl rfl) rfl rfl rfl ?_
      -- R34.1 132 := graph.go:136 move
      refine WL.v (by first | exact r_move (v := .int _ _) rfl | exact r_move rfl) rfl rfl rfl ?_
      refine WL.next hK4 (fun _ _ h => h) (j + 1) ⟨hj', st⟩ (by omega) (by rw [e]; repeat (first | exact sub_nil _ | refine sub_cons rfl rfl ?_))
    rw [ho, Bool.true_and] at e
    rcases hlj : (s.tk j).live with _ | _
    · rw [hlj] at e
      have e : oldB s k (j + 1) = true := e
      refine WC.seq fun K2977 hK2977 => ?_
      -- region 31
      refine WC.region ?_
      -- R31.0 133 := graph.go:136 binOp
      refine WL.v (by first | exact r_lss rfl rfl (decide_eq_true (by omega)) | exact r_lss rfl rfl (decide_eq_false (by omega)) | exact r_lss rfl rfl rfl) rfl rfl rfl ?_
      refine WL.fin hK2977 (fun _ _ h => h) ?_
      refine WC.seq fun K2978 hK2978 => ?_
      refine WC.condT rfl rfl ?_
      refine WC.skipF hK2978 (fun _ _ h => h) ?_
      refine WC.seq fun K2979 hK2979 => ?_
      refine WC.block ?_
      refine WC.seq fun K2980 hK2980 => ?_
      -- region 32
      refine WC.region ?_
      -- R32.0 134 := graph.go:136 move
      refine WL.v (by first | exact r_move (v := .int _ _) rfl | exact r_move rfl) rfl rfl rfl ?_
      -- R32.1 13 := graph.go:136 assign
      refine WL.v (by first | exact r_assign (v := .int _ _) rfl | exact r_assign rfl) rfl rfl rfl ?_
      refine WL.fin hK2980 (fun _ _ h => h) ?_
      -- region 33
      refine WC.region ?_
      -- R33.0 135 := graph.go:137 move
      refine WL.v (by first | exact r_move (v := .bool _) rfl | exact r_move rfl) rfl rfl rfl ?_
      -- R33.1 136 := graph.go:137 move
      refine WL.v (by first | exact r_move (v := .bool _) rfl | exact r_move rfl) rfl rfl rfl ?_
      -- R33.2 137 := graph.go:137 fieldAddr
      refine WL.v (by exact r_field ty_fld36_1 rfl) rfl rfl rfl ?_
      -- R33.3 138 := graph.go:137 load
      refine WL.v (by exact r_load1 (v := .pointer (some ⟨bB, 0, none⟩)) ty_one29 rfl (by rw [← f5]; exact st.c0 (by decide))) rfl rfl rfl ?_
      -- R33.4 139 := graph.go:137 move
      refine WL.v (by first | exact r_move (v := .int _ _) rfl | exact r_move rfl) rfl rfl rfl ?_
      -- R33.5 140 := graph.go:137 nilCheck
      refine WL.v (by exact r_nilCheck rfl) rfl rfl rfl ?_
      -- R33.6 141 := graph.go:137 fieldAddr
      refine WL.v (by exact r_field ty_fld50_3 rfl) rfl rfl rfl ?_
      -- R33.7 142 := graph.go:137 indexAddr
      refine WL.v (by exact r_indexA (j := j) ty_ar43 rfl rfl rfl hj') rfl rfl rfl ?_
      -- R33.8 143 := graph.go:137 fieldAddr
      refine WL.v (by exact r_field ty_fld42_0 rfl) rfl rfl rfl ?_
      -- R33.9 144 := graph.go:137 load
      refine WL.v (by exact r_load1 (v := .bool false) ty_one4 rfl (by rw [← hlj]; exact c_sT (hckA _).B hj' (j := 0) (by decide) (by omega) st)) rfl rfl rfl ?_
      -- R33.10 145 := graph.go:137 unOp
      refine WL.v (by first | exact r_notT rfl | exact r_notF rfl | exact r_not rfl) rfl rfl rfl ?_
      -- R33.11 146 := graph.go:137 move
      refine WL.v (by first | exact r_move (v := .bool _) rfl | exact r_move rfl) rfl rfl rfl ?_
      -- R33.12 147 := graph.go:137 move
      refine WL.no rfl rfl ?_
      -- R33.13 148 := graph.go:137 move
      refine WL.no rfl rfl ?_
      -- R33.14 149 := graph.go:137 call
      refine WL.no rfl rfl ?_
      -- R33.15 150 := graph.go:137 move
      refine WL.no rfl rfl ?_
      -- R33.16 151 := graph.go:137 move
      refine WL.no rfl rfl ?_
      -- R33.17 152 := graph.go:137 call
      refine WL.no rfl rfl ?_
      -- R33.18 153 := graph.go:137 binOp
      refine WL.no rfl rfl ?_
      -- R33.19 154 := graph.go:137 pick
      refine WL.v (by first | exact r_pickT (v := .bool _) rfl rfl | exact r_pickF (v := .bool _) rfl rfl) rfl rfl rfl ?_
      -- R33.20 155 := graph.go:137 pick
      refine WL.v (by first | exact r_pickT (v := .bool _) rfl rfl | exact r_pickF (v := .bool _) rfl rfl) rfl rfl rfl ?_
      -- R33.21 12 := graph.go:137 assign
      refine WL.v (by first | exact r_assign (v := .bool _) rfl | exact r_assign rfl) rfl rfl rfl ?_
      refine WL.fin hK2979 (fun _ _ h => h) ?_
      -- region 34
      refine WC.region ?_
      -- R34.0 156 := graph.go:136 binOp
      refine WL.v (by first | exact r_add rfl rfl (wi64 (by omega) (by omega)) | exact r_add rfl rfl rfl) rfl rfl rfl ?_
      -- R34.1 132 := graph.go:136 move
      refine WL.v (by first | exact r_move (v := .int _ _) rfl | exact r_move rfl) rfl rfl rfl ?_
      refine WL.next hK4 (fun _ _ h => h) (j + 1) ⟨hj', st⟩ (by omega) (by rw [e]; repeat (first | exact sub_nil _ | refine sub_cons rfl rfl ?_))
    rw [hlj] at e
    have e : oldB s k (j + 1) = decide ((s.tk k).birth ≤ (s.tk j).birth) := e
    by_cases hge : (s.tk k).birth ≤ (s.tk j).birth
    · rw [decide_eq_true hge] at e
      refine WC.seq fun K2981 hK2981 => ?_
      -- region 31
      refine WC.region ?_
      -- R31.0 133 := graph.go:136 binOp
      refine WL.v (by first | exact r_lss rfl rfl (decide_eq_true (by omega)) | exact r_lss rfl rfl (decide_eq_false (by omega)) | exact r_lss rfl rfl rfl) rfl rfl rfl ?_
      refine WL.fin hK2981 (fun _ _ h => h) ?_
      refine WC.seq fun K2982 hK2982 => ?_
      refine WC.condT rfl rfl ?_
      refine WC.skipF hK2982 (fun _ _ h => h) ?_
      refine WC.seq fun K2983 hK2983 => ?_
      refine WC.block ?_
      refine WC.seq fun K2984 hK2984 => ?_
      -- region 32
      refine WC.region ?_
      -- R32.0 134 := graph.go:136 move
      refine WL.v (by first | exact r_move (v := .int _ _) rfl | exact r_move rfl) rfl rfl rfl ?_
      -- R32.1 13 := graph.go:136 assign
      refine WL.v (by first | exact r_assign (v := .int _ _) rfl | exact r_assign rfl) rfl rfl rfl ?_
      refine WL.fin hK2984 (fun _ _ h => h) ?_
      -- region 33
      refine WC.region ?_
      -- R33.0 135 := graph.go:137 move
      refine WL.v (by first | exact r_move (v := .bool _) rfl | exact r_move rfl) rfl rfl rfl ?_
      -- R33.1 136 := graph.go:137 move
      refine WL.v (by first | exact r_move (v := .bool _) rfl | exact r_move rfl) rfl rfl rfl ?_
      -- R33.2 137 := graph.go:137 fieldAddr
      refine WL.v (by exact r_field ty_fld36_1 rfl) rfl rfl rfl ?_
      -- R33.3 138 := graph.go:137 load
      refine WL.v (by exact r_load1 (v := .pointer (some ⟨bB, 0, none⟩)) ty_one29 rfl (by rw [← f5]; exact st.c0 (by decide))) rfl rfl rfl ?_
      -- R33.4 139 := graph.go:137 move
      refine WL.v (by first | exact r_move (v := .int _ _) rfl | exact r_move rfl) rfl rfl rfl ?_
      -- R33.5 140 := graph.go:137 nilCheck
      refine WL.v (by exact r_nilCheck rfl) rfl rfl rfl ?_
      -- R33.6 141 := graph.go:137 fieldAddr
      refine WL.v (by exact r_field ty_fld50_3 rfl) rfl rfl rfl ?_
      -- R33.7 142 := graph.go:137 indexAddr
      refine WL.v (by exact r_indexA (j := j) ty_ar43 rfl rfl rfl hj') rfl rfl rfl ?_
      -- R33.8 143 := graph.go:137 fieldAddr
      refine WL.v (by exact r_field ty_fld42_0 rfl) rfl rfl rfl ?_
      -- R33.9 144 := graph.go:137 load
      refine WL.v (by exact r_load1 (v := .bool true) ty_one4 rfl (by rw [← hlj]; exact c_sT (hckA _).B hj' (j := 0) (by decide) (by omega) st)) rfl rfl rfl ?_
      -- R33.10 145 := graph.go:137 unOp
      refine WL.v (by first | exact r_notT rfl | exact r_notF rfl | exact r_not rfl) rfl rfl rfl ?_
      -- R33.11 146 := graph.go:137 move
      refine WL.v (by first | exact r_move (v := .bool _) rfl | exact r_move rfl) rfl rfl rfl ?_
      -- R33.12 147 := graph.go:137 move
      refine WL.v (by first | exact r_move (v := .func _ _ _) rfl | exact r_move (v := .nilFunc) rfl | exact r_move rfl) rfl rfl rfl ?_
      -- R33.13 148 := graph.go:137 move
      refine WL.v (by first | exact r_move (v := .int _ _) rfl | exact r_move rfl) rfl rfl rfl ?_
      -- R33.14 149 := graph.go:137 call
      refine WL.call (r_callv ty_call35 rfl rfl) rfl rfl rfl (age_ok (s := s) (qv := qv) (u := j) hj' List.mem_cons_self f5 (hckA _).B st) ?_
      rintro _ w ⟨rfl, st⟩
      -- R33.15 150 := graph.go:137 move
      refine WL.v (by first | exact r_move (v := .func _ _ _) rfl | exact r_move (v := .nilFunc) rfl | exact r_move rfl) rfl rfl rfl ?_
      -- R33.16 151 := graph.go:137 move
      refine WL.v (by first | exact r_move (v := .int _ _) rfl | exact r_move rfl) rfl rfl rfl ?_
      -- R33.17 152 := graph.go:137 call
      refine WL.call (r_callv ty_call35 rfl rfl) rfl rfl rfl (age_ok (s := s) (qv := qv) (u := k) hk' List.mem_cons_self f5 (hckA _).B st) ?_
      rintro _ w ⟨rfl, st⟩
      -- R33.18 153 := graph.go:137 binOp
      refine WL.v (by exact r_geq rfl rfl (decide_eq_true (by omega))) rfl rfl rfl ?_
      -- R33.19 154 := graph.go:137 pick
      refine WL.v (by first | exact r_pickT (v := .bool _) rfl rfl | exact r_pickF (v := .bool _) rfl rfl) rfl rfl rfl ?_
      -- R33.20 155 := graph.go:137 pick
      refine WL.v (by first | exact r_pickT (v := .bool _) rfl rfl | exact r_pickF (v := .bool _) rfl rfl) rfl rfl rfl ?_
      -- R33.21 12 := graph.go:137 assign
      refine WL.v (by first | exact r_assign (v := .bool _) rfl | exact r_assign rfl) rfl rfl rfl ?_
      refine WL.fin hK2983 (fun _ _ h => h) ?_
      -- region 34
      refine WC.region ?_
      -- R34.0 156 := graph.go:136 binOp
      refine WL.v (by first | exact r_add rfl rfl (wi64 (by omega) (by omega)) | exact r_add rfl rfl rfl) rfl rfl rfl ?_
      -- R34.1 132 := graph.go:136 move
      refine WL.v (by first | exact r_move (v := .int _ _) rfl | exact r_move rfl) rfl rfl rfl ?_
      refine WL.next hK4 (fun _ _ h => h) (j + 1) ⟨hj', st⟩ (by omega) (by rw [e]; repeat (first | exact sub_nil _ | refine sub_cons rfl rfl ?_))
    · rw [decide_eq_false hge] at e
      refine WC.seq fun K2985 hK2985 => ?_
      -- region 31
      refine WC.region ?_
      -- R31.0 133 := graph.go:136 binOp
      refine WL.v (by first | exact r_lss rfl rfl (decide_eq_true (by omega)) | exact r_lss rfl rfl (decide_eq_false (by omega)) | exact r_lss rfl rfl rfl) rfl rfl rfl ?_
      refine WL.fin hK2985 (fun _ _ h => h) ?_
      refine WC.seq fun K2986 hK2986 => ?_
      refine WC.condT rfl rfl ?_
      refine WC.skipF hK2986 (fun _ _ h => h) ?_
      refine WC.seq fun K2987 hK2987 => ?_
      refine WC.block ?_
      refine WC.seq fun K2988 hK2988 => ?_
      -- region 32
      refine WC.region ?_
      -- R32.0 134 := graph.go:136 move
      refine WL.v (by first | exact r_move (v := .int _ _) rfl | exact r_move rfl) rfl rfl rfl ?_
      -- R32.1 13 := graph.go:136 assign
      refine WL.v (by first | exact r_assign (v := .int _ _) rfl | exact r_assign rfl) rfl rfl rfl ?_
      refine WL.fin hK2988 (fun _ _ h => h) ?_
      -- region 33
      refine WC.region ?_
      -- R33.0 135 := graph.go:137 move
      refine WL.v (by first | exact r_move (v := .bool _) rfl | exact r_move rfl) rfl rfl rfl ?_
      -- R33.1 136 := graph.go:137 move
      refine WL.v (by first | exact r_move (v := .bool _) rfl | exact r_move rfl) rfl rfl rfl ?_
      -- R33.2 137 := graph.go:137 fieldAddr
      refine WL.v (by exact r_field ty_fld36_1 rfl) rfl rfl rfl ?_
      -- R33.3 138 := graph.go:137 load
      refine WL.v (by exact r_load1 (v := .pointer (some ⟨bB, 0, none⟩)) ty_one29 rfl (by rw [← f5]; exact st.c0 (by decide))) rfl rfl rfl ?_
      -- R33.4 139 := graph.go:137 move
      refine WL.v (by first | exact r_move (v := .int _ _) rfl | exact r_move rfl) rfl rfl rfl ?_
      -- R33.5 140 := graph.go:137 nilCheck
      refine WL.v (by exact r_nilCheck rfl) rfl rfl rfl ?_
      -- R33.6 141 := graph.go:137 fieldAddr
      refine WL.v (by exact r_field ty_fld50_3 rfl) rfl rfl rfl ?_
      -- R33.7 142 := graph.go:137 indexAddr
      refine WL.v (by exact r_indexA (j := j) ty_ar43 rfl rfl rfl hj') rfl rfl rfl ?_
      -- R33.8 143 := graph.go:137 fieldAddr
      refine WL.v (by exact r_field ty_fld42_0 rfl) rfl rfl rfl ?_
      -- R33.9 144 := graph.go:137 load
      refine WL.v (by exact r_load1 (v := .bool true) ty_one4 rfl (by rw [← hlj]; exact c_sT (hckA _).B hj' (j := 0) (by decide) (by omega) st)) rfl rfl rfl ?_
      -- R33.10 145 := graph.go:137 unOp
      refine WL.v (by first | exact r_notT rfl | exact r_notF rfl | exact r_not rfl) rfl rfl rfl ?_
      -- R33.11 146 := graph.go:137 move
      refine WL.v (by first | exact r_move (v := .bool _) rfl | exact r_move rfl) rfl rfl rfl ?_
      -- R33.12 147 := graph.go:137 move
      refine WL.v (by first | exact r_move (v := .func _ _ _) rfl | exact r_move (v := .nilFunc) rfl | exact r_move rfl) rfl rfl rfl ?_
      -- R33.13 148 := graph.go:137 move
      refine WL.v (by first | exact r_move (v := .int _ _) rfl | exact r_move rfl) rfl rfl rfl ?_
      -- R33.14 149 := graph.go:137 call
      refine WL.call (r_callv ty_call35 rfl rfl) rfl rfl rfl (age_ok (s := s) (qv := qv) (u := j) hj' List.mem_cons_self f5 (hckA _).B st) ?_
      rintro _ w ⟨rfl, st⟩
      -- R33.15 150 := graph.go:137 move
      refine WL.v (by first | exact r_move (v := .func _ _ _) rfl | exact r_move (v := .nilFunc) rfl | exact r_move rfl) rfl rfl rfl ?_
      -- R33.16 151 := graph.go:137 move
      refine WL.v (by first | exact r_move (v := .int _ _) rfl | exact r_move rfl) rfl rfl rfl ?_
      -- R33.17 152 := graph.go:137 call
      refine WL.call (r_callv ty_call35 rfl rfl) rfl rfl rfl (age_ok (s := s) (qv := qv) (u := k) hk' List.mem_cons_self f5 (hckA _).B st) ?_
      rintro _ w ⟨rfl, st⟩
      -- R33.18 153 := graph.go:137 binOp
      refine WL.v (by exact r_geq rfl rfl (decide_eq_false (by omega))) rfl rfl rfl ?_
      -- R33.19 154 := graph.go:137 pick
      refine WL.v (by first | exact r_pickT (v := .bool _) rfl rfl | exact r_pickF (v := .bool _) rfl rfl) rfl rfl rfl ?_
      -- R33.20 155 := graph.go:137 pick
      refine WL.v (by first | exact r_pickT (v := .bool _) rfl rfl | exact r_pickF (v := .bool _) rfl rfl) rfl rfl rfl ?_
      -- R33.21 12 := graph.go:137 assign
      refine WL.v (by first | exact r_assign (v := .bool _) rfl | exact r_assign rfl) rfl rfl rfl ?_
      refine WL.fin hK2987 (fun _ _ h => h) ?_
      -- region 34
      refine WC.region ?_
      -- R34.0 156 := graph.go:136 binOp
      refine WL.v (by first | exact r_add rfl rfl (wi64 (by omega) (by omega)) | exact r_add rfl rfl rfl) rfl rfl rfl ?_
      -- R34.1 132 := graph.go:136 move
      refine WL.v (by first | exact r_move (v := .int _ _) rfl | exact r_move rfl) rfl rfl rfl ?_
      refine WL.next hK4 (fun _ _ h => h) (j + 1) ⟨hj', st⟩ (by omega) (by rw [e]; repeat (first | exact sub_nil _ | refine sub_cons rfl rfl ?_))
  subst hk16
  by_cases hm1 : s.mode = 1
  · obtain ⟨hb2, hc3, u0, hu0, hub⟩ := h1 hm1
    have hckT : ∀ {X : List HI}, CK s s' ans bB bA qv qv' (.slice a ans.length c) (X ++ ((b1, Row 36 10 fs) :: l)) := hck.mono fun _ hx => List.mem_append_right _ (List.mem_cons_of_mem _ hx)
    have c1 : ∀ {X : List HI} {w : World} {x : Value} {i : Nat}, i < 10 → fs i = x → S0 w0 (X ++ ((b1, Row 36 10 fs) :: l)) w → w.cell? ⟨b1, i, none⟩ = some x := fun hi e st => by rw [← e]; exact st.cell (List.mem_append_right _ List.mem_cons_self) hi
    refine WC.seq fun K2989 hK2989 => ?_
    -- region 26
    refine WC.region ?_
    -- R26.0 117 := graph.go:133 binOp
    refine WL.v (by first | exact r_lss rfl rfl (decide_eq_true (by omega)) | exact r_lss rfl rfl (decide_eq_false (by omega)) | exact r_lss rfl rfl rfl) rfl rfl rfl ?_
    refine WL.fin hK2989 (fun _ _ h => h) ?_
    refine WC.seq fun K2990 hK2990 => ?_
    refine WC.condF rfl rfl ?_
    refine WC.exitF hK2950 (fun _ _ h => h) ?_
    refine WC.seq fun K2991 hK2991 => ?_
    refine WC.seq fun K2992 hK2992 => ?_
    -- region 38
    refine WC.region ?_
    -- R38.0 159 := graph.go:144 fieldAddr
    refine WL.v (by exact r_field ty_fld36_1 rfl) rfl rfl rfl ?_
    -- R38.1 160 := graph.go:144 load
    refine WL.v (by exact r_load1 (v := .pointer (some ⟨bB, 0, none⟩)) ty_one29 rfl (by rw [← f5]; exact st.c0 (by decide))) rfl rfl rfl ?_
    -- R38.2 161 := graph.go:144 nilCheck
    refine WL.v (by exact r_nilCheck rfl) rfl rfl rfl ?_
    -- R38.3 162 := graph.go:144 fieldAddr
    refine WL.v (by exact r_field ty_fld50_0 rfl) rfl rfl rfl ?_
    -- R38.4 163 := graph.go:144 load
    refine WL.v (by exact r_load1 (v := .int .i64 (s.mode : Nat)) ty_one40 rfl (c_s (hckA _).B (by decide) rfl st)) rfl rfl rfl ?_
    -- R38.5 164 := graph.go:144 binOp
    refine WL.v (by exact r_eql rfl rfl (decide_eq_true (by omega))) rfl rfl rfl ?_
    refine WL.fin hK2992 (fun _ _ h => h) ?_
    refine WC.condT rfl rfl ?_
    refine WC.seq fun K2993 hK2993 => ?_
    -- region 39
    refine WC.region ?_
    -- R39.0 14 := graph.go:145 assign
    refine WL.v (by first | exact r_assign (v := .bool _) rfl | exact r_assign rfl) rfl rfl rfl ?_
    refine WL.fin hK2993 (fun _ _ h => h) ?_
    refine WC.seq fun K2994 hK2994 => ?_
    refine WC.seq fun K2995 hK2995 => ?_
    -- region 40
    refine WC.region ?_
    -- R40.0 165 := graph.go:146 move
    refine WL.v (by first | exact r_move (v := .int _ _) rfl | exact r_move rfl) rfl rfl rfl ?_
    -- R40.1 166 := graph.go:146 call
    refine WL.call (r_call ty_call31 rfl) rfl rfl rfl (tasks_ok hD (hrvl) st) ?_
    rintro _ w ⟨XT, hXT, st⟩
    obtain ⟨Ts, hTs⟩ : ∃ Ts, Ts = tasksP (rv) := ⟨_, rfl⟩
    have hT16 : ∀ o, o ∈ Ts → o < 16 := fun o h => by rw [hTs] at h; exact tasksP_lt h
    have hTl : Ts.length ≤ 16 := by rw [hTs]; exact tasksP_len
    rw [← hTs] at hXT
    obtain ⟨at', ct, bt, rfl, hct1, hct2, hat', htcell⟩ := hXT.form
    -- R40.2 167 := graph.go:146 call
    refine WL.v (by exact r_len ty_usl54 rfl) rfl rfl rfl ?_
    -- R40.3 168 := graph.go:146 move
    refine WL.v (by first | exact r_move (v := .int _ _) rfl | exact r_move rfl) rfl rfl rfl ?_
    refine WL.fin hK2995 (fun _ _ h => h) ?_
    refine WC.block ?_
    refine WC.loop (ι := Nat) (fun k => [(1, .pointer (some ⟨b1, 0, none⟩)), (3, .int .u16 (back : Nat)), (4, .int .i64 (t : Nat)), (10, .func (.func 35) #[] #[.pointer (some ⟨b1, 0, none⟩)]), (14, .bool (witB s t (Ts.take k))), (166, .slice at' Ts.length ct), (167, .int .i64 (Ts.length : Nat)), (168, .int .i64 (k : Nat))])
      (fun k w' => k ≤ Ts.length ∧ S0 w0 (XT ++ ((b1, Row 36 10 fs) :: l)) w') (fun k => Ts.length - k) 0 ⟨Nat.zero_le _, st⟩ ?_ ?_
    · skip
      repeat (first | exact sub_nil _ | refine sub_cons rfl rfl ?_)
    clear st
    rintro k w ⟨hkl, st⟩ K5 hK5
    by_cases hke : k = Ts.length
    · subst hke
      have hwit : witB s t (Ts.take Ts.length) = true := by
        rw [List.take_length]
        exact List.any_eq_true.2 ⟨u0, by rw [hTs]; exact tasksP_mem.2 ⟨hu0.1, (hrvb u0 hu0.1).2 hu0⟩, decide_eq_true hub⟩
      refine WC.seq fun K2996 hK2996 => ?_
      -- region 41
      refine WC.region ?_
      -- R41.0 169 := graph.go:146 binOp
      refine WL.v (by first | exact r_lss rfl rfl (decide_eq_true (by omega)) | exact r_lss rfl rfl (decide_eq_false (by omega)) | exact r_lss rfl rfl rfl) rfl rfl rfl ?_
      refine WL.fin hK2996 (fun _ _ h => h) ?_
      refine WC.seq fun K2997 hK2997 => ?_
      refine WC.condF rfl rfl ?_
      refine WC.exitF hK2994 (fun _ _ h => h) ?_
      refine WC.seq fun K2998 hK2998 => ?_
      -- region 45
      refine WC.region ?_
      -- R45.0 183 := graph.go:149 move
      refine WL.v (by first | exact r_move (v := .int _ _) rfl | exact r_move rfl) rfl rfl rfl ?_
      -- R45.1 184 := graph.go:149 move
      refine WL.v (by first | exact r_move (v := .int _ _) rfl | exact r_move rfl) rfl rfl rfl ?_
      -- R45.2 185 := graph.go:149 call
      refine WL.call (r_call ty_call30 rfl) rfl rfl rfl (bit_ok ht16 st) ?_
      rintro _ w ⟨rfl, st⟩
      -- R45.3 186 := graph.go:149 binOp
      refine WL.v (by exact r_eql rfl rfl (decide_eq_true (by rw [hb2]))) rfl rfl rfl ?_
      -- R45.4 187 := graph.go:149 move
      refine WL.v (by first | exact r_move (v := .bool _) rfl | exact r_move rfl) rfl rfl rfl ?_
      -- R45.5 188 := graph.go:149 fieldAddr
      refine WL.v (by exact r_field ty_fld36_3 rfl) rfl rfl rfl ?_
      -- R45.6 189 := graph.go:149 fieldAddr
      refine WL.v (by exact r_field ty_fld34_0 rfl) rfl rfl rfl ?_
      -- R45.7 190 := graph.go:149 load
      refine WL.v (by exact r_load1 (v := .int .i64 code) ty_one30 rfl (c1 (by decide) f7 st)) rfl rfl rfl ?_
      -- R45.8 191 := graph.go:149 binOp
      refine WL.v (by exact r_eql rfl rfl (decide_eq_true hc3)) rfl rfl rfl ?_
      -- R45.9 192 := graph.go:149 pick
      refine WL.v (by first | exact r_pickT (v := .bool _) rfl rfl | exact r_pickF (v := .bool _) rfl rfl) rfl rfl rfl ?_
      -- R45.10 193 := graph.go:149 move
      refine WL.v (by first | exact r_move (v := .bool _) rfl | exact r_move rfl) rfl rfl rfl ?_
      -- R45.11 194 := graph.go:149 move
      refine WL.v (by exact r_move (v := .bool true) (congrArg Value.bool hwit)) rfl rfl rfl ?_
      -- R45.12 195 := graph.go:149 pick
      refine WL.v (by first | exact r_pickT (v := .bool _) rfl rfl | exact r_pickF (v := .bool _) rfl rfl) rfl rfl rfl ?_
      -- R45.13 2 := graph.go:149 assign
      refine WL.v (by first | exact r_assign (v := .bool _) rfl | exact r_assign rfl) rfl rfl rfl ?_
      refine WL.fin hK2998 (fun _ _ h => h) ?_
      refine WC.ret1 Tryz.results32 (fun _ _ h => h) rfl ?_
      exact ⟨_, rfl, rfl, (st_dropL st).drop⟩
    have hkl' : k < Ts.length := by omega
    obtain ⟨u, hu⟩ : ∃ v, Ts[k]? = some v := ⟨Ts[k], List.getElem?_eq_getElem hkl'⟩
    have hu16 := hT16 u (List.mem_of_getElem? hu)
    obtain rfl := hat' (by omega)
    have hce := htcell st (fun x hx => List.mem_append_left _ hx) k u hu 0 (by decide)
    have e : witB s t (Ts.take (k + 1)) = (witB s t (Ts.take k) || decide ((s.tk u).birth < (s.tk t).birth)) := by
      unfold witB
      rw [List.take_add_one, hu, List.any_append]; simp
    rcases hw : witB s t (Ts.take k) with _ | _
    rotate_left
    · rw [hw, Bool.true_or] at e
      refine WC.seq fun K2999 hK2999 => ?_
      -- region 41
      refine WC.region ?_
      -- R41.0 169 := graph.go:146 binOp
      refine WL.v (by first | exact r_lss rfl rfl (decide_eq_true (by omega)) | exact r_lss rfl rfl (decide_eq_false (by omega)) | exact r_lss rfl rfl rfl) rfl rfl rfl ?_
      refine WL.fin hK2999 (fun _ _ h => h) ?_
      refine WC.seq fun K3000 hK3000 => ?_
      refine WC.condT rfl rfl ?_
      refine WC.skipF hK3000 (fun _ _ h => h) ?_
      refine WC.seq fun K3001 hK3001 => ?_
      refine WC.block ?_
      refine WC.seq fun K3002 hK3002 => ?_
      -- region 42
      refine WC.region ?_
      -- R42.0 170 := graph.go:146 indexAddr
      refine WL.v (by exact r_indexS (j := k) ty_sl54 rfl rfl rfl (by omega)) rfl rfl rfl ?_
      -- R42.1 171 := graph.go:146 load
      refine WL.v (by exact r_load1 (v := .int .i64 (u : Nat)) ty_one31 rfl (by rw [Nat.zero_add]; exact hce)) rfl rfl rfl ?_
      -- R42.2 16 := graph.go:146 assign
      refine WL.v (by first | exact r_assign (v := .int _ _) rfl | exact r_assign rfl) rfl rfl rfl ?_
      refine WL.fin hK3002 (fun _ _ h => h) ?_
      -- region 43
      refine WC.region ?_
      -- R43.0 172 := graph.go:147 move
      refine WL.v (by first | exact r_move (v := .bool _) rfl | exact r_move rfl) rfl rfl rfl ?_
      -- R43.1 173 := graph.go:147 move
      refine WL.v (by first | exact r_move (v := .bool _) rfl | exact r_move rfl) rfl rfl rfl ?_
      -- R43.2 174 := graph.go:147 move
      refine WL.no rfl rfl ?_
      -- R43.3 175 := graph.go:147 move
      refine WL.no rfl rfl ?_
      -- R43.4 176 := graph.go:147 call
      refine WL.no rfl rfl ?_
      -- R43.5 177 := graph.go:147 move
      refine WL.no rfl rfl ?_
      -- R43.6 178 := graph.go:147 move
      refine WL.no rfl rfl ?_
      -- R43.7 179 := graph.go:147 call
      refine WL.no rfl rfl ?_
      -- R43.8 180 := graph.go:147 binOp
      refine WL.no rfl rfl ?_
      -- R43.9 181 := graph.go:147 pick
      refine WL.v (by first | exact r_pickT (v := .bool _) rfl rfl | exact r_pickF (v := .bool _) rfl rfl) rfl rfl rfl ?_
      -- R43.10 14 := graph.go:147 assign
      refine WL.v (by first | exact r_assign (v := .bool _) rfl | exact r_assign rfl) rfl rfl rfl ?_
      refine WL.fin hK3001 (fun _ _ h => h) ?_
      -- region 44
      refine WC.region ?_
      -- R44.0 182 := graph.go:146 binOp
      refine WL.v (by first | exact r_add rfl rfl (wi64 (by omega) (by omega)) | exact r_add rfl rfl rfl) rfl rfl rfl ?_
      -- R44.1 168 := graph.go:146 move
      refine WL.v (by first | exact r_move (v := .int _ _) rfl | exact r_move rfl) rfl rfl rfl ?_
      refine WL.next hK5 (fun _ _ h => h) (k + 1) ⟨hkl', st⟩ (by omega) (by rw [e]; repeat (first | exact sub_nil _ | refine sub_cons rfl rfl ?_))
    rw [hw, Bool.false_or] at e
    by_cases hlt : (s.tk u).birth < (s.tk t).birth
    · rw [decide_eq_true hlt] at e
      refine WC.seq fun K3003 hK3003 => ?_
      -- region 41
      refine WC.region ?_
      -- R41.0 169 := graph.go:146 binOp
      refine WL.v (by first | exact r_lss rfl rfl (decide_eq_true (by omega)) | exact r_lss rfl rfl (decide_eq_false (by omega)) | exact r_lss rfl rfl rfl) rfl rfl rfl ?_
      refine WL.fin hK3003 (fun _ _ h => h) ?_
      refine WC.seq fun K3004 hK3004 => ?_
      refine WC.condT rfl rfl ?_
      refine WC.skipF hK3004 (fun _ _ h => h) ?_
      refine WC.seq fun K3005 hK3005 => ?_
      refine WC.block ?_
      refine WC.seq fun K3006 hK3006 => ?_
      -- region 42
      refine WC.region ?_
      -- R42.0 170 := graph.go:146 indexAddr
      refine WL.v (by exact r_indexS (j := k) ty_sl54 rfl rfl rfl (by omega)) rfl rfl rfl ?_
      -- R42.1 171 := graph.go:146 load
      refine WL.v (by exact r_load1 (v := .int .i64 (u : Nat)) ty_one31 rfl (by rw [Nat.zero_add]; exact hce)) rfl rfl rfl ?_
      -- R42.2 16 := graph.go:146 assign
      refine WL.v (by first | exact r_assign (v := .int _ _) rfl | exact r_assign rfl) rfl rfl rfl ?_
      refine WL.fin hK3006 (fun _ _ h => h) ?_
      -- region 43
      refine WC.region ?_
      -- R43.0 172 := graph.go:147 move
      refine WL.v (by first | exact r_move (v := .bool _) rfl | exact r_move rfl) rfl rfl rfl ?_
      -- R43.1 173 := graph.go:147 move
      refine WL.v (by first | exact r_move (v := .bool _) rfl | exact r_move rfl) rfl rfl rfl ?_
      -- R43.2 174 := graph.go:147 move
      refine WL.v (by first | exact r_move (v := .func _ _ _) rfl | exact r_move (v := .nilFunc) rfl | exact r_move rfl) rfl rfl rfl ?_
      -- R43.3 175 := graph.go:147 move
      refine WL.v (by first | exact r_move (v := .int _ _) rfl | exact r_move rfl) rfl rfl rfl ?_
      -- R43.4 176 := graph.go:147 call
      refine WL.call (r_callv ty_call35 rfl rfl) rfl rfl rfl (age_ok (s := s) (qv := qv) (u := u) hu16 hmR f5 hckT.B st) ?_
      rintro _ w ⟨rfl, st⟩
      -- R43.5 177 := graph.go:147 move
      refine WL.v (by first | exact r_move (v := .func _ _ _) rfl | exact r_move (v := .nilFunc) rfl | exact r_move rfl) rfl rfl rfl ?_
      -- R43.6 178 := graph.go:147 move
      refine WL.v (by first | exact r_move (v := .int _ _) rfl | exact r_move rfl) rfl rfl rfl ?_
      -- R43.7 179 := graph.go:147 call
      refine WL.call (r_callv ty_call35 rfl rfl) rfl rfl rfl (age_ok (s := s) (qv := qv) (u := t) ht16 hmR f5 hckT.B st) ?_
      rintro _ w ⟨rfl, st⟩
      -- R43.8 180 := graph.go:147 binOp
      refine WL.v (by exact r_lss rfl rfl (decide_eq_true (by omega))) rfl rfl rfl ?_
      -- R43.9 181 := graph.go:147 pick
      refine WL.v (by first | exact r_pickT (v := .bool _) rfl rfl | exact r_pickF (v := .bool _) rfl rfl) rfl rfl rfl ?_
      -- R43.10 14 := graph.go:147 assign
      refine WL.v (by first | exact r_assign (v := .bool _) rfl | exact r_assign rfl) rfl rfl rfl ?_
      refine WL.fin hK3005 (fun _ _ h => h) ?_
      -- region 44
      refine WC.region ?_
      -- R44.0 182 := graph.go:146 binOp
      refine WL.v (by first | exact r_add rfl rfl (wi64 (by omega) (by omega)) | exact r_add rfl rfl rfl) rfl rfl rfl ?_
      -- R44.1 168 := graph.go:146 move
      refine WL.v (by first | exact r_move (v := .int _ _) rfl | exact r_move rfl) rfl rfl rfl ?_
      refine WL.next hK5 (fun _ _ h => h) (k + 1) ⟨hkl', st⟩ (by omega) (by rw [e]; repeat (first | exact sub_nil _ | refine sub_cons rfl rfl ?_))
    · rw [decide_eq_false hlt] at e
      refine WC.seq fun K3007 hK3007 => ?_
      -- region 41
      refine WC.region ?_
      -- R41.0 169 := graph.go:146 binOp
      refine WL.v (by first | exact r_lss rfl rfl (decide_eq_true (by omega)) | exact r_lss rfl rfl (decide_eq_false (by omega)) | exact r_lss rfl rfl rfl) rfl rfl rfl ?_
      refine WL.fin hK3007 (fun _ _ h => h) ?_
      refine WC.seq fun K3008 hK3008 => ?_
      refine WC.condT rfl rfl ?_
      refine WC.skipF hK3008 (fun _ _ h => h) ?_
      refine WC.seq fun K3009 hK3009 => ?_
      refine WC.block ?_
      refine WC.seq fun K3010 hK3010 => ?_
      -- region 42
      refine WC.region ?_
      -- R42.0 170 := graph.go:146 indexAddr
      refine WL.v (by exact r_indexS (j := k) ty_sl54 rfl rfl rfl (by omega)) rfl rfl rfl ?_
      -- R42.1 171 := graph.go:146 load
      refine WL.v (by exact r_load1 (v := .int .i64 (u : Nat)) ty_one31 rfl (by rw [Nat.zero_add]; exact hce)) rfl rfl rfl ?_
      -- R42.2 16 := graph.go:146 assign
      refine WL.v (by first | exact r_assign (v := .int _ _) rfl | exact r_assign rfl) rfl rfl rfl ?_
      refine WL.fin hK3010 (fun _ _ h => h) ?_
      -- region 43
      refine WC.region ?_
      -- R43.0 172 := graph.go:147 move
      refine WL.v (by first | exact r_move (v := .bool _) rfl | exact r_move rfl) rfl rfl rfl ?_
      -- R43.1 173 := graph.go:147 move
      refine WL.v (by first | exact r_move (v := .bool _) rfl | exact r_move rfl) rfl rfl rfl ?_
      -- R43.2 174 := graph.go:147 move
      refine WL.v (by first | exact r_move (v := .func _ _ _) rfl | exact r_move (v := .nilFunc) rfl | exact r_move rfl) rfl rfl rfl ?_
      -- R43.3 175 := graph.go:147 move
      refine WL.v (by first | exact r_move (v := .int _ _) rfl | exact r_move rfl) rfl rfl rfl ?_
      -- R43.4 176 := graph.go:147 call
      refine WL.call (r_callv ty_call35 rfl rfl) rfl rfl rfl (age_ok (s := s) (qv := qv) (u := u) hu16 hmR f5 hckT.B st) ?_
      rintro _ w ⟨rfl, st⟩
      -- R43.5 177 := graph.go:147 move
      refine WL.v (by first | exact r_move (v := .func _ _ _) rfl | exact r_move (v := .nilFunc) rfl | exact r_move rfl) rfl rfl rfl ?_
      -- R43.6 178 := graph.go:147 move
      refine WL.v (by first | exact r_move (v := .int _ _) rfl | exact r_move rfl) rfl rfl rfl ?_
      -- R43.7 179 := graph.go:147 call
      refine WL.call (r_callv ty_call35 rfl rfl) rfl rfl rfl (age_ok (s := s) (qv := qv) (u := t) ht16 hmR f5 hckT.B st) ?_
      rintro _ w ⟨rfl, st⟩
      -- R43.8 180 := graph.go:147 binOp
      refine WL.v (by exact r_lss rfl rfl (decide_eq_false (by omega))) rfl rfl rfl ?_
      -- R43.9 181 := graph.go:147 pick
      refine WL.v (by first | exact r_pickT (v := .bool _) rfl rfl | exact r_pickF (v := .bool _) rfl rfl) rfl rfl rfl ?_
      -- R43.10 14 := graph.go:147 assign
      refine WL.v (by first | exact r_assign (v := .bool _) rfl | exact r_assign rfl) rfl rfl rfl ?_
      refine WL.fin hK3009 (fun _ _ h => h) ?_
      -- region 44
      refine WC.region ?_
      -- R44.0 182 := graph.go:146 binOp
      refine WL.v (by first | exact r_add rfl rfl (wi64 (by omega) (by omega)) | exact r_add rfl rfl rfl) rfl rfl rfl ?_
      -- R44.1 168 := graph.go:146 move
      refine WL.v (by first | exact r_move (v := .int _ _) rfl | exact r_move rfl) rfl rfl rfl ?_
      refine WL.next hK5 (fun _ _ h => h) (k + 1) ⟨hkl', st⟩ (by omega) (by rw [e]; repeat (first | exact sub_nil _ | refine sub_cons rfl rfl ?_))
  obtain ⟨hc3, hall⟩ := h2 (hm.resolve_left hm1)
  have hckT : ∀ {X : List HI}, CK s s' ans bB bA qv qv' (.slice a ans.length c) (X ++ ((b1, Row 36 10 fs) :: l)) := hck.mono fun _ hx => List.mem_append_right _ (List.mem_cons_of_mem _ hx)
  have c1 : ∀ {X : List HI} {w : World} {x : Value} {i : Nat}, i < 10 → fs i = x → S0 w0 (X ++ ((b1, Row 36 10 fs) :: l)) w → w.cell? ⟨b1, i, none⟩ = some x := fun hi e st => by rw [← e]; exact st.cell (List.mem_append_right _ List.mem_cons_self) hi
  refine WC.seq fun K3011 hK3011 => ?_
  -- region 26
  refine WC.region ?_
  -- R26.0 117 := graph.go:133 binOp
  refine WL.v (by first | exact r_lss rfl rfl (decide_eq_true (by omega)) | exact r_lss rfl rfl (decide_eq_false (by omega)) | exact r_lss rfl rfl rfl) rfl rfl rfl ?_
  refine WL.fin hK3011 (fun _ _ h => h) ?_
  refine WC.seq fun K3012 hK3012 => ?_
  refine WC.condF rfl rfl ?_
  refine WC.exitF hK2950 (fun _ _ h => h) ?_
  refine WC.seq fun K3013 hK3013 => ?_
  refine WC.seq fun K3014 hK3014 => ?_
  -- region 38
  refine WC.region ?_
  -- R38.0 159 := graph.go:144 fieldAddr
  refine WL.v (by exact r_field ty_fld36_1 rfl) rfl rfl rfl ?_
  -- R38.1 160 := graph.go:144 load
  refine WL.v (by exact r_load1 (v := .pointer (some ⟨bB, 0, none⟩)) ty_one29 rfl (by rw [← f5]; exact st.c0 (by decide))) rfl rfl rfl ?_
  -- R38.2 161 := graph.go:144 nilCheck
  refine WL.v (by exact r_nilCheck rfl) rfl rfl rfl ?_
  -- R38.3 162 := graph.go:144 fieldAddr
  refine WL.v (by exact r_field ty_fld50_0 rfl) rfl rfl rfl ?_
  -- R38.4 163 := graph.go:144 load
  refine WL.v (by exact r_load1 (v := .int .i64 (s.mode : Nat)) ty_one40 rfl (c_s (hckA _).B (by decide) rfl st)) rfl rfl rfl ?_
  -- R38.5 164 := graph.go:144 binOp
  refine WL.v (by exact r_eql rfl rfl (decide_eq_false (by omega))) rfl rfl rfl ?_
  refine WL.fin hK3014 (fun _ _ h => h) ?_
  refine WC.condF rfl rfl ?_
  refine WC.skipF hK3013 (fun _ _ h => h) ?_
  refine WC.seq fun K3015 hK3015 => ?_
  refine WC.seq fun K3016 hK3016 => ?_
  -- region 46
  refine WC.region ?_
  -- R46.0 196 := graph.go:151 move
  refine WL.v (by first | exact r_move (v := .int _ _) rfl | exact r_move rfl) rfl rfl rfl ?_
  -- R46.1 197 := graph.go:151 call
  refine WL.call (r_call ty_call31 rfl) rfl rfl rfl (tasks_ok hD (hlt3) st) ?_
  rintro _ w ⟨XT, hXT, st⟩
  obtain ⟨Ts, hTs⟩ : ∃ Ts, Ts = tasksP (back) := ⟨_, rfl⟩
  have hT16 : ∀ o, o ∈ Ts → o < 16 := fun o h => by rw [hTs] at h; exact tasksP_lt h
  have hTl : Ts.length ≤ 16 := by rw [hTs]; exact tasksP_len
  rw [← hTs] at hXT
  obtain ⟨at', ct, bt, rfl, hct1, hct2, hat', htcell⟩ := hXT.form
  -- R46.2 198 := graph.go:151 call
  refine WL.v (by exact r_len ty_usl54 rfl) rfl rfl rfl ?_
  -- R46.3 199 := graph.go:151 move
  refine WL.v (by first | exact r_move (v := .int _ _) rfl | exact r_move rfl) rfl rfl rfl ?_
  refine WL.fin hK3016 (fun _ _ h => h) ?_
  refine WC.block ?_
  refine WC.loop (ι := Nat) (fun k => [(1, .pointer (some ⟨b1, 0, none⟩)), (3, .int .u16 (back : Nat)), (4, .int .i64 (t : Nat)), (6, .int .u16 (rv : Nat)), (10, .func (.func 35) #[] #[.pointer (some ⟨b1, 0, none⟩)]), (197, .slice at' Ts.length ct), (198, .int .i64 (Ts.length : Nat)), (199, .int .i64 (k : Nat))])
    (fun k w' => k ≤ Ts.length ∧ S0 w0 (XT ++ ((b1, Row 36 10 fs) :: l)) w') (fun k => Ts.length - k) 0 ⟨Nat.zero_le _, st⟩ ?_ ?_
  · skip
    repeat (first | exact sub_nil _ | refine sub_cons rfl rfl ?_)
  clear st
  rintro k w ⟨hkl, st⟩ K5 hK5
  by_cases hke : k = Ts.length
  · subst hke
    refine WC.seq fun K3017 hK3017 => ?_
    -- region 47
    refine WC.region ?_
    -- R47.0 200 := graph.go:151 binOp
    refine WL.v (by first | exact r_lss rfl rfl (decide_eq_true (by omega)) | exact r_lss rfl rfl (decide_eq_false (by omega)) | exact r_lss rfl rfl rfl) rfl rfl rfl ?_
    refine WL.fin hK3017 (fun _ _ h => h) ?_
    refine WC.seq fun K3018 hK3018 => ?_
    refine WC.condF rfl rfl ?_
    refine WC.exitF hK3015 (fun _ _ h => h) ?_
    refine WC.seq fun K3019 hK3019 => ?_
    -- region 52
    refine WC.region ?_
    -- R52.0 217 := graph.go:156 fieldAddr
    refine WL.v (by exact r_field ty_fld36_3 rfl) rfl rfl rfl ?_
    -- R52.1 218 := graph.go:156 fieldAddr
    refine WL.v (by exact r_field ty_fld34_0 rfl) rfl rfl rfl ?_
    -- R52.2 219 := graph.go:156 load
    refine WL.v (by exact r_load1 (v := .int .i64 code) ty_one30 rfl (c1 (by decide) f7 st)) rfl rfl rfl ?_
    -- R52.3 220 := graph.go:156 binOp
    refine WL.v (by exact r_neq rfl rfl (decide_eq_true hc3)) rfl rfl rfl ?_
    -- R52.4 2 := graph.go:156 assign
    refine WL.v (by first | exact r_assign (v := .bool _) rfl | exact r_assign rfl) rfl rfl rfl ?_
    refine WL.fin hK3019 (fun _ _ h => h) ?_
    refine WC.ret1 Tryz.results32 (fun _ _ h => h) rfl ?_
    exact ⟨_, rfl, rfl, (st_dropL st).drop⟩
  have hkl' : k < Ts.length := by omega
  obtain ⟨u, hu⟩ : ∃ v, Ts[k]? = some v := ⟨Ts[k], List.getElem?_eq_getElem hkl'⟩
  have hu16 := hT16 u (List.mem_of_getElem? hu)
  have hum : u ∈ tasksP back := by rw [← hTs]; exact List.mem_of_getElem? hu
  obtain ⟨hriv, hbt⟩ := hall u hu16 (tasksP_mem.1 hum).2
  have hrb := (hrvb u hu16).2 hriv
  obtain rfl := hat' (by omega)
  have hce := htcell st (fun x hx => List.mem_append_left _ hx) k u hu 0 (by decide)
  refine WC.seq fun K3020 hK3020 => ?_
  -- region 47
  refine WC.region ?_
  -- R47.0 200 := graph.go:151 binOp
  refine WL.v (by first | exact r_lss rfl rfl (decide_eq_true (by omega)) | exact r_lss rfl rfl (decide_eq_false (by omega)) | exact r_lss rfl rfl rfl) rfl rfl rfl ?_
  refine WL.fin hK3020 (fun _ _ h => h) ?_
  refine WC.seq fun K3021 hK3021 => ?_
  refine WC.condT rfl rfl ?_
  refine WC.skipF hK3021 (fun _ _ h => h) ?_
  refine WC.seq fun K3022 hK3022 => ?_
  refine WC.block ?_
  refine WC.seq fun K3023 hK3023 => ?_
  -- region 48
  refine WC.region ?_
  -- R48.0 201 := graph.go:151 indexAddr
  refine WL.v (by exact r_indexS (j := k) ty_sl54 rfl rfl rfl (by omega)) rfl rfl rfl ?_
  -- R48.1 202 := graph.go:151 load
  refine WL.v (by exact r_load1 (v := .int .i64 (u : Nat)) ty_one31 rfl (by rw [Nat.zero_add]; exact hce)) rfl rfl rfl ?_
  -- R48.2 18 := graph.go:151 assign
  refine WL.v (by first | exact r_assign (v := .int _ _) rfl | exact r_assign rfl) rfl rfl rfl ?_
  refine WL.fin hK3023 (fun _ _ h => h) ?_
  refine WC.seq fun K3024 hK3024 => ?_
  -- region 49
  refine WC.region ?_
  -- R49.0 203 := graph.go:152 move
  refine WL.v (by first | exact r_move (v := .int _ _) rfl | exact r_move rfl) rfl rfl rfl ?_
  -- R49.1 204 := graph.go:152 move
  refine WL.v (by first | exact r_move (v := .int _ _) rfl | exact r_move rfl) rfl rfl rfl ?_
  -- R49.2 205 := graph.go:152 call
  refine WL.call (r_call ty_call28 rfl) rfl rfl rfl (has_ok hrvl hu16 st) ?_
  rintro _ w ⟨he, st⟩
  rw [hrb] at he
  subst he
  -- R49.3 206 := graph.go:152 unOp
  refine WL.v (by first | exact r_notT rfl | exact r_notF rfl | exact r_not rfl) rfl rfl rfl ?_
  -- R49.4 207 := graph.go:152 move
  refine WL.v (by first | exact r_move (v := .bool _) rfl | exact r_move rfl) rfl rfl rfl ?_
  -- R49.5 208 := graph.go:152 move
  refine WL.v (by first | exact r_move (v := .func _ _ _) rfl | exact r_move (v := .nilFunc) rfl | exact r_move rfl) rfl rfl rfl ?_
  -- R49.6 209 := graph.go:152 move
  refine WL.v (by first | exact r_move (v := .int _ _) rfl | exact r_move rfl) rfl rfl rfl ?_
  -- R49.7 210 := graph.go:152 call
  refine WL.call (r_callv ty_call35 rfl rfl) rfl rfl rfl (age_ok (s := s) (qv := qv) (u := t) ht16 hmR f5 hckT.B st) ?_
  rintro _ w ⟨rfl, st⟩
  -- R49.8 211 := graph.go:152 move
  refine WL.v (by first | exact r_move (v := .func _ _ _) rfl | exact r_move (v := .nilFunc) rfl | exact r_move rfl) rfl rfl rfl ?_
  -- R49.9 212 := graph.go:152 move
  refine WL.v (by first | exact r_move (v := .int _ _) rfl | exact r_move rfl) rfl rfl rfl ?_
  -- R49.10 213 := graph.go:152 call
  refine WL.call (r_callv ty_call35 rfl rfl) rfl rfl rfl (age_ok (s := s) (qv := qv) (u := u) hu16 hmR f5 hckT.B st) ?_
  rintro _ w ⟨rfl, st⟩
  -- R49.11 214 := graph.go:152 binOp
  refine WL.v (by exact r_geq rfl rfl (decide_eq_false (by omega))) rfl rfl rfl ?_
  -- R49.12 215 := graph.go:152 pick
  refine WL.v (by first | exact r_pickT (v := .bool _) rfl rfl | exact r_pickF (v := .bool _) rfl rfl) rfl rfl rfl ?_
  refine WL.fin hK3024 (fun _ _ h => h) ?_
  refine WC.condF rfl rfl ?_
  refine WC.skipF hK3022 (fun _ _ h => h) ?_
  -- region 51
  refine WC.region ?_
  -- R51.0 216 := graph.go:151 binOp
  refine WL.v (by first | exact r_add rfl rfl (wi64 (by omega) (by omega)) | exact r_add rfl rfl rfl) rfl rfl rfl ?_
  -- R51.1 199 := graph.go:151 move
  refine WL.v (by first | exact r_move (v := .int _ _) rfl | exact r_move rfl) rfl rfl rfl ?_
  refine WL.next hK5 (fun _ _ h => h) (k + 1) ⟨hkl', st⟩ (by omega) (by repeat (first | exact sub_nil _ | refine sub_cons rfl rfl ?_))
theorem ages_ok_law (a : Option Addr) (sb so n c : Nat) (op : Nat → Kern.Op) (hD : gD w) (hS : Scr w sb so n op) (hn63 : n ≤ 140737488355328) (ha : 0 < n → a = some ⟨sb, so, none⟩) :
    Calls Tryz.prog 4 #[.slice a n c] w (Ret fun v w' => v = .bool true ∧ S0 w [] w') := by
  have st : S0 w [] w := St.init w _
  by_cases hn : n ≤ 65536
  · have hC : CheckOK w 32 #[] op n fun _ LI => LI = [] := by
      refine check_pure fun i hi bB bA qv qv' ov l w' hck st' => ?_
      have hK := run_KI op i
      have hI := run_INV op i
      have hpn := (pend_step (o := op i) hK.b hI hK.told).1
      have h16 : ∀ a, a ∈ (stepP (runP op i) (op i)).1.told → a.1 < 16 := fun a ha => by
        obtain ⟨k, hk⟩ := List.getElem?_of_mem ha
        exact (PA_at hpn k a hk).1
      refine ages1_ok (s := runP op i) (s' := runP op (i + 1)) hD h16 hI (run_INV op (i + 1)) (fun hm t => ?_) (fun hm => ?_) hck st'
      · exact acyc_step (o := op i) hK.b hI (run_BI op i) (run_AgeS op i) hm
      · have h := age_step (o := op i) hK.b hI hK.told (run_AgeS op i) hm
        exact ⟨h.z, h.y⟩
    refine enter [.slice a n c] Tryz.func4 rfl Tryz.ntmps4 rfl ?_
    show WC _ _ _ 8 [] [(0, .slice a n c)] _
    refine WC.seq fun K3025 hK3025 => ?_
    -- region 0
    refine WC.region ?_
    -- R0.0 2 := graph.go:102 assign
    refine WL.v (by first | exact r_assign (v := .bool _) rfl | exact r_assign rfl) rfl rfl rfl ?_
    refine WL.fin hK3025 (fun _ _ h => h) ?_
    refine WC.seq fun K3026 hK3026 => ?_
    refine WC.seq fun K3027 hK3027 => ?_
    -- region 1
    refine WC.region ?_
    -- R1.0 3 := graph.go:103 move
    refine WL.v (by first | exact r_move (v := .slice _ _ _) rfl | exact r_move rfl) rfl rfl rfl ?_
    -- R1.1 4 := graph.go:103 call
    refine WL.call (r_call ty_call23 rfl) rfl rfl rfl (zzSmall1_ok a n c st) ?_
    rintro _ w' ⟨he, st⟩
    rw [decide_eq_true hn] at he
    subst he
    -- R1.2 5 := graph.go:103 unOp
    refine WL.v (by first | exact r_notT rfl | exact r_notF rfl | exact r_not rfl) rfl rfl rfl ?_
    refine WL.fin hK3027 (fun _ _ h => h) ?_
    refine WC.condF rfl rfl ?_
    refine WC.skipF hK3026 (fun _ _ h => h) ?_
    refine WC.seq fun K3028 hK3028 => ?_
    -- region 3
    refine WC.region ?_
    -- R3.0 6 := graph.go:107 move
    refine WL.v (by first | exact r_move (v := .slice _ _ _) rfl | exact r_move rfl) rfl rfl rfl ?_
    -- R3.1 7 := graph.go:107 call
    refine WL.call (r_call ty_call24 rfl) rfl rfl rfl (play_ok (LI := []) (l := []) ty_call32 hD hS hn ha hC rfl st) ?_
    rintro _ w'' ⟨rfl, LI', rfl, st⟩
    -- R3.2 2 := graph.go:107 assign
    refine WL.v (by first | exact r_assign (v := .bool _) rfl | exact r_assign rfl) rfl rfl rfl ?_
    refine WL.fin hK3028 (fun _ _ h => h) ?_
    refine WC.ret1 Tryz.results4 (fun _ _ h => h) rfl ?_
    exact ⟨_, rfl, rfl, st⟩
  · skip
    refine enter [.slice a n c] Tryz.func4 rfl Tryz.ntmps4 rfl ?_
    show WC _ _ _ 8 [] [(0, .slice a n c)] _
    refine WC.seq fun K3029 hK3029 => ?_
    -- region 0
    refine WC.region ?_
    -- R0.0 2 := graph.go:102 assign
    refine WL.v (by first | exact r_assign (v := .bool _) rfl | exact r_assign rfl) rfl rfl rfl ?_
    refine WL.fin hK3029 (fun _ _ h => h) ?_
    refine WC.seq fun K3030 hK3030 => ?_
    refine WC.seq fun K3031 hK3031 => ?_
    -- region 1
    refine WC.region ?_
    -- R1.0 3 := graph.go:103 move
    refine WL.v (by first | exact r_move (v := .slice _ _ _) rfl | exact r_move rfl) rfl rfl rfl ?_
    -- R1.1 4 := graph.go:103 call
    refine WL.call (r_call ty_call23 rfl) rfl rfl rfl (zzSmall1_ok a n c st) ?_
    rintro _ w' ⟨he, st⟩
    rw [decide_eq_false hn] at he
    subst he
    -- R1.2 5 := graph.go:103 unOp
    refine WL.v (by first | exact r_notT rfl | exact r_notF rfl | exact r_not rfl) rfl rfl rfl ?_
    refine WL.fin hK3031 (fun _ _ h => h) ?_
    refine WC.condT rfl rfl ?_
    refine WC.seq fun K3032 hK3032 => ?_
    -- region 2
    refine WC.region ?_
    -- R2.0 2 := graph.go:104 assign
    refine WL.v (by first | exact r_assign (v := .bool _) rfl | exact r_assign rfl) rfl rfl rfl ?_
    refine WL.fin hK3032 (fun _ _ h => h) ?_
    refine WC.ret1 Tryz.results4 (fun _ _ h => h) rfl ?_
    exact ⟨_, rfl, rfl, st⟩
end Go.Proofs.Qxb6500834aGreatDoor

