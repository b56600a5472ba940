import Derived.Test.Qxb6500834aGreatDoorK31
set_option linter.unusedVariables false
set_option linter.unusedSimpArgs false
set_option maxRecDepth 20000
namespace Go.Proofs.Qxb6500834aGreatDoor
open Go.RowKit Go.E1 Go.Kern
variable {w0 : World} {L L' l I J K K' X Y : List HI} {w : World} {s : KS} {B : KA} {t r N : Nat} {qv : Nat → Value}

/-! The visible state. -/
def tsF (T : TK) (j : Nat) : Value := nth [.bool T.live, .int .u64 (T.birth : Nat), .int .u64 (T.epoch : Nat), .bool T.waiting, .int .u64 (T.deadline : Nat), .int .i64 (T.n : Nat)] j
def sF (s : KS) (qv : Nat → Value) (i : Nat) : Value :=
  if i < 3 then nth [.int .i64 (s.mode : Nat), .int .u64 (s.now : Nat), .int .u64 (s.births : Nat)] i
  else if i < 99 then tsF (s.tk ((i - 3) / 6)) ((i - 3) % 6)
  else if i < 419 then hM s.held (i - 99)
  else if i < 739 then hM s.claim (i - 419)
  else if i < 759 then qv (i - 739)
  else .int .u64 (s.cells (i - 759) : Nat)
def nilQ (_ : Nat) : Value := .slice none 0 0
theorem zero50 : zeroL Tryz.prog 50 = some ((List.range 771).map (sF ks0 nilQ)) := by kernel_rfl
def bareS (s : KS) (tk : Nat → TK) : KS := { s with tk := tk }
theorem sF_base {k : Nat} (hk : k < 771) : upds (upds (upds (upds (upds (upds (sF ks0 nilQ) 0 1 fun _ => .int .i64 (s.mode : Nat)) 1 1 fun _ => .int .u64 (s.now : Nat)) 2 1 fun _ => .int .u64 (s.births : Nat)) 99 320 (hM s.held)) 419 320 (hM s.claim)) 759 12 (uF s.cells) k = sF (bareS s fun _ => tk0) nilQ k := by
  rw [upds_eq]
  by_cases h1 : 759 ≤ k
  · rw [if_pos (by omega)]
    unfold sF
    rw [if_neg (by omega), if_neg (by omega), if_neg (by omega), if_neg (by omega), if_neg (by omega)]; rfl
  rw [if_neg (by omega), upds_eq]
  by_cases h2 : 419 ≤ k ∧ k < 739
  · rw [if_pos (by omega)]
    unfold sF
    rw [if_neg (by omega), if_neg (by omega), if_neg (by omega), if_pos (by omega)]; rfl
  rw [if_neg (by omega), upds_eq]
  by_cases h3 : 99 ≤ k ∧ k < 419
  · rw [if_pos (by omega)]
    unfold sF
    rw [if_neg (by omega), if_neg (by omega), if_pos (by omega)]; rfl
  rw [if_neg (by omega)]
  by_cases h4 : k < 3
  · match k with
    | 0 | 1 | 2 => rfl
    | k + 3 => omega
  rw [upds_eq, if_neg (by omega), upds_eq, if_neg (by omega), upds_eq, if_neg (by omega)]
  unfold sF
  rw [if_neg h4, if_neg h4]
  by_cases h5 : k < 99
  · rw [if_pos h5, if_pos h5]; rfl
  · simp only [h5, show ¬ k < 419 by omega, show ¬ k < 739 by omega, show k < 759 by omega, if_false, if_true]
theorem sF_setT {tk : Nat → TK} {T : TK} {i : Nat} {g : Nat → Value} (hi : i < 16) (hg : ∀ j, j < 6 → g j = tsF T j) : ∀ k, k < 771 → upds (sF (bareS s tk) qv) (0 + 3 + i * 6) 6 g k = sF (bareS s (updN tk i T)) qv k := fun k hk => by
  rw [upds_eq]
  unfold sF bareS updN
  by_cases h : 0 + 3 + i * 6 ≤ k ∧ k < 0 + 3 + i * 6 + 6
  · rw [if_pos h, if_neg (by omega), if_pos (by omega)]
    dsimp only
    rw [if_pos (by omega), hg _ (by omega), show k - (0 + 3 + i * 6) = (k - 3) % 6 by omega]
  · rw [if_neg h]
    by_cases h1 : k < 3
    · rw [if_pos h1, if_pos h1]
    · rw [if_neg h1, if_neg h1]
      by_cases h2 : k < 99
      · rw [if_pos h2, if_pos h2]
        dsimp only
        rw [if_neg (by omega)]
      · rw [if_neg h2, if_neg h2]
theorem sF_setQ {v : Value} (hr : r < 20) : ∀ k, k < 771 → upd (sF s qv) (0 + 739 + r * 1) v k = sF s (updN qv r v) k := fun k hk => by
  rw [upd_eq]
  unfold sF updN
  by_cases h : k = 0 + 739 + r * 1
  · rw [if_pos h, if_neg (by omega), if_neg (by omega), if_neg (by omega), if_neg (by omega), if_pos (by omega), if_pos (by omega)]
  · rw [if_neg h]
    by_cases h2 : 739 ≤ k ∧ k < 759
    · rw [if_neg (by omega), if_neg (by omega), if_neg (by omega), if_neg (by omega), if_pos (by omega), if_neg (by omega), if_neg (by omega), if_neg (by omega), if_neg (by omega), if_pos (by omega), if_neg (by omega)]
    · by_cases h3 : k < 739
      · by_cases a1 : k < 3
        · rw [if_pos a1, if_pos a1]
        · rw [if_neg a1, if_neg a1]
          by_cases a2 : k < 99
          · rw [if_pos a2, if_pos a2]
          · rw [if_neg a2, if_neg a2]
            by_cases a3 : k < 419
            · rw [if_pos a3, if_pos a3]
            · rw [if_neg a3, if_neg a3, if_pos h3, if_pos h3]
      · rw [if_neg (by omega), if_neg (by omega), if_neg (by omega), if_neg (by omega), if_neg (by omega), if_neg (by omega), if_neg (by omega), if_neg (by omega), if_neg (by omega), if_neg (by omega)]
theorem sF_congr {s1 s2 : KS} (h : ∀ t, t < 16 → s1.tk t = s2.tk t) (h1 : s1.mode = s2.mode) (h2 : s1.now = s2.now) (h3 : s1.births = s2.births) (h4 : s1.held = s2.held) (h5 : s1.claim = s2.claim) (h6 : s1.cells = s2.cells) : ∀ k, k < 771 → sF s1 qv k = sF s2 qv k := fun k hk => by
  unfold sF
  rw [h1, h2, h3, h4, h5, h6]
  by_cases a1 : k < 3
  · rw [if_pos a1, if_pos a1]
  · rw [if_neg a1, if_neg a1]
    by_cases a2 : k < 99
    · rw [if_pos a2, if_pos a2, h _ (by omega)]
    · rw [if_neg a2, if_neg a2]
theorem sF_one (hq : ∀ r, r < 20 → (qv r).oneCell' = true) : ∀ k, k < 771 → (sF s qv k).oneCell' = true := fun k hk => by
  unfold sF hM tsF
  split
  · match k with
    | 0 | 1 | 2 => rfl
    | k + 3 => omega
  split
  · have : (k - 3) % 6 < 6 := Nat.mod_lt _ (by decide)
    generalize (k - 3) % 6 = j at *
    match j with
    | 0 | 1 | 2 | 3 | 4 | 5 => rfl
    | j + 6 => omega
  split
  · rfl
  split
  · rfl
  split
  · exact hq _ (by omega)
  · rfl
abbrev sI (b : Nat) (s : KS) (qv : Nat → Value) : HI := (b, Row 50 771 (sF s qv))
theorem ql_one {v : Value} {Q : List (Nat × Nat)} (h : QL0 v Q X) : v.oneCell' = true := by
  obtain ⟨a, c, b, rfl, -⟩ := h.form
  rfl
theorem c_cells {ov : Value} (hm : kR B.bk B.bm B.br B.bp s.tk s.cells s.births ov ∈ l) (st : S0 w0 l w) : ∀ i, i < 12 → w.cell? ⟨B.bk, 0 + 2163 + i, none⟩ = some (uF s.cells i) := fun i hi => c_cell hm hi (by omega) st

set_option maxHeartbeats 4000000 in
theorem snapshot_ok (hB : KB N s) (hN : N ≤ 1000000) (st : KH w0 B s l w) :
    Calls Tryz.prog 53 #[.pointer (some ⟨B.bk, 0, none⟩)] w (Ret fun v w' => ∃ qv XS, (∀ r, r < 20 → QL0 (qv r) (s.queue r) (XS r)) ∧ v = .agg (mkA 771 (sF s qv)) ∧ KH w0 B s (gather 20 XS ++ l) w') := by
  obtain ⟨Y, qv0, XQ, tv, ov, V, st⟩ := st.view
  have hnn := hB.nn
  refine enter [.pointer (some ⟨B.bk, 0, none⟩)] Tryz.func53 rfl Tryz.ntmps53 rfl ?_
  show WC _ _ _ 90 [] [(0, .pointer (some ⟨B.bk, 0, none⟩))] _
  refine WC.seq fun K1344 hK1344 => ?_
  -- region 0
  refine WC.region ?_
  -- R0.0 2 := kernel.go:215 alloc
  refine WL.allocN (m := 771) st zero50 rfl rfl ?_
  intro b2 w st
  refine WL.fin hK1344 (fun _ _ h => h) ?_
  refine WC.cut (ι := Nat) (fun b3 => [(0, .pointer (some ⟨B.bk, 0, none⟩)), (2, .pointer (some ⟨b2, 0, none⟩)), (3, .pointer (some ⟨b3, 0, none⟩))]) (fun b3 w' => S0 w0 (sI b3 (bareS s fun _ => tk0) nilQ :: sI b2 ks0 nilQ :: Y) w') ?_ ?_
  rotate_left
  · intro KC hKC
    -- region 1 (draws)
    refine WC.schS (.block 0 (.block 1 (.block 2 (.block 3 (.block 4 (.block 5 (.block 6 (.block 7 (.block 8 (.block 9 (.block 10 (.block 12 (.block 13 (.block 14 (.block 15 (.block 16 (.block 17 (.block 18 (.block 19 (.block 21 (.block 22 (.block 23 (.block 24 (.block 26 (.block 27 (.block 28 (.block 29 (.seq (.seq (.exit 11) (.seq (.seq (.exit 20) (.seq (.seq (.exit 25) (.block 30 (.seq (.exit 31) (.seq (.exit 32) .skip)))) (.seq (.exit 31) (.seq (.exit 25) (.block 30 (.seq (.exit 32) .skip)))))) (.seq (.exit 31) (.seq (.exit 20) (.seq (.exit 25) (.block 30 (.seq (.exit 32) .skip))))))) (.seq (.exit 31) (.seq (.exit 11) (.seq (.exit 20) (.seq (.exit 25) (.block 30 (.seq (.exit 32) .skip)))))))))))))))))))))))))))))))))) st (st) ty_mixed (by kernel_rfl) fun w st => ?_
    -- R1.0 7 := kernel.go:216 move
    refine SC.v rfl (fun w st => by first | exact r_move (v := .pointer _) rfl | exact r_move rfl) rfl rfl rfl ?_
    -- R1.1 8 := kernel.go:216 nilCheck
    refine SC.v rfl (fun w st => by exact r_nilCheck rfl) rfl rfl rfl ?_
    -- R1.2 9 := kernel.go:216 fieldAddr
    refine SC.v rfl (fun w st => by exact r_field ty_fld120_2 rfl) rfl rfl rfl ?_
    -- R1.3 10 := kernel.go:216 load
    refine SC.v rfl (fun w st => by exact r_load1 (v := .pointer (some ⟨B.bp, 0, none⟩)) ty_one109 rfl (V.cp st.drop)) rfl rfl rfl ?_
    -- R1.4 11 := kernel.go:216 nilCheck
    refine SC.v rfl (fun w st => by exact r_nilCheck rfl) rfl rfl rfl ?_
    -- R1.5 12 := kernel.go:216 fieldAddr
    refine SC.v rfl (fun w st => by exact r_field ty_fld131_0 rfl) rfl rfl rfl ?_
    -- R1.6 13 := kernel.go:216 load
    refine SC.v rfl (fun w st => by exact r_load1 (v := .int .i64 (s.mode : Nat)) ty_one40 rfl (V.cmode st.drop)) rfl rfl rfl ?_
    -- R1.7 14 := kernel.go:216 move
    refine SC.v rfl (fun w st => by first | exact r_move (v := .pointer _) rfl | exact r_move rfl) rfl rfl rfl ?_
    -- R1.8 15 := kernel.go:216 nilCheck
    refine SC.v rfl (fun w st => by exact r_nilCheck rfl) rfl rfl rfl ?_
    -- R1.9 16 := kernel.go:216 fieldAddr
    refine SC.v rfl (fun w st => by exact r_field ty_fld120_0 rfl) rfl rfl rfl ?_
    -- R1.10 17 := kernel.go:216 load
    refine SC.v rfl (fun w st => by exact r_load1 (v := .pointer (some ⟨B.bm, 0, none⟩)) ty_one105 rfl (V.cm st.drop)) rfl rfl rfl ?_
    -- R1.12 19 := kernel.go:216 move
    refine SC.v rfl (fun w st => by first | exact r_move (v := .pointer _) rfl | exact r_move rfl) rfl rfl rfl ?_
    -- R1.13 20 := kernel.go:216 nilCheck
    refine SC.v rfl (fun w st => by exact r_nilCheck rfl) rfl rfl rfl ?_
    -- R1.14 21 := kernel.go:216 fieldAddr
    refine SC.v rfl (fun w st => by exact r_field ty_fld120_5 rfl) rfl rfl rfl ?_
    -- R1.15 22 := kernel.go:216 load
    refine SC.v rfl (fun w st => by exact r_load1 (v := .int .u64 (s.births : Nat)) ty_one26 rfl (st.drop.cell V.k (by decide))) rfl rfl rfl ?_
    -- R1.16 23 := kernel.go:216 move
    refine SC.v rfl (fun w st => by first | exact r_move (v := .pointer _) rfl | exact r_move rfl) rfl rfl rfl ?_
    -- R1.17 24 := kernel.go:216 nilCheck
    refine SC.v rfl (fun w st => by exact r_nilCheck rfl) rfl rfl rfl ?_
    -- R1.18 25 := kernel.go:216 fieldAddr
    refine SC.v rfl (fun w st => by exact r_field ty_fld120_1 rfl) rfl rfl rfl ?_
    -- R1.19 26 := kernel.go:216 load
    refine SC.v rfl (fun w st => by exact r_load1 (v := .pointer (some ⟨B.br, 0, none⟩)) ty_one107 rfl (V.cr st.drop)) rfl rfl rfl ?_
    -- R1.21 28 := kernel.go:216 move
    refine SC.v rfl (fun w st => by first | exact r_move (v := .pointer _) rfl | exact r_move rfl) rfl rfl rfl ?_
    -- R1.22 29 := kernel.go:216 nilCheck
    refine SC.v rfl (fun w st => by exact r_nilCheck rfl) rfl rfl rfl ?_
    -- R1.23 30 := kernel.go:216 fieldAddr
    refine SC.v rfl (fun w st => by exact r_field ty_fld120_2 rfl) rfl rfl rfl ?_
    -- R1.24 31 := kernel.go:216 load
    refine SC.v rfl (fun w st => by exact r_load1 (v := .pointer (some ⟨B.bp, 0, none⟩)) ty_one109 rfl (V.cp st.drop)) rfl rfl rfl ?_
    -- R1.26 33 := kernel.go:216 move
    refine SC.v rfl (fun w st => by first | exact r_move (v := .pointer _) rfl | exact r_move rfl) rfl rfl rfl ?_
    -- R1.27 34 := kernel.go:216 nilCheck
    refine SC.v rfl (fun w st => by exact r_nilCheck rfl) rfl rfl rfl ?_
    -- R1.28 35 := kernel.go:216 fieldAddr
    refine SC.v rfl (fun w st => by exact r_field ty_fld120_4 rfl) rfl rfl rfl ?_
    -- R1.29 36 := kernel.go:216 load
    refine SC.v rfl (fun w st => by exact r_loadN (f := uF s.cells) ty_agg48 rfl (c_cells V.k st.drop)) rfl rfl rfl ?_
    refine SC.two rfl rfl ?_ ?_
    · skip
      -- R1.11 18 := kernel.go:217 call
      refine WL.call (r_call ty_call89 rfl) rfl rfl rfl (now_ok (now := s.now) (armed := s.armed) (tv := tv) (by first | exact List.mem_cons_of_mem _ V.m | exact List.mem_cons_of_mem _ (List.mem_cons_of_mem _ V.m)) st) ?_
      rintro _ w ⟨rfl, st⟩
      refine SC.nxt (by first | exact st | exact st.drop) ?_
      refine SC.two rfl rfl ?_ ?_
      · skip
        -- R1.20 27 := kernel.go:218 call
        refine WL.call (r_call ty_call90 rfl) rfl rfl rfl (matrix_ok (held := s.held) (qv := qv0) (by first | exact List.mem_cons_of_mem _ V.r | exact List.mem_cons_of_mem _ (List.mem_cons_of_mem _ V.r)) st) ?_
        rintro _ w ⟨rfl, st⟩
        refine SC.nxt (by first | exact st | exact st.drop) ?_
        refine SC.two rfl rfl ?_ ?_
        · skip
          -- R1.25 32 := kernel.go:218 call
          refine WL.call (r_call ty_call91 rfl) rfl rfl rfl (claims_ok (mode := s.mode) (claim := s.claim) (by first | exact List.mem_cons_of_mem _ V.p | exact List.mem_cons_of_mem _ (List.mem_cons_of_mem _ V.p)) st) ?_
          rintro _ w ⟨rfl, st⟩
          refine SC.nxt (by first | exact st | exact st.drop) ?_
          -- R1.30 37 := kernel.go:216 build
          refine SC.v rfl (fun w st => by exact r_buildN (n := 771) (z := sF ks0 nilQ) (v := upds (upds (upds (upds (upds (upds (sF ks0 nilQ) 0 1 fun _ => .int .i64 (s.mode : Nat)) 1 1 fun _ => .int .u64 (s.now : Nat)) 2 1 fun _ => .int .u64 (s.births : Nat)) 99 320 (hM s.held)) 419 320 (hM s.claim)) 759 12 (uF s.cells)) (ps := [(0, .int .i64 (s.mode : Nat)), (1, .int .u64 (s.now : Nat)), (2, .int .u64 (s.births : Nat)), (4, .agg (mkA 320 (hM s.held))), (5, .agg (mkA 320 (hM s.claim))), (7, .agg (mkA 12 (uF s.cells)))]) ty_pl50 zero50 rfl (fill_stepN (p := fun _ => .int .i64 (s.mode : Nat)) rfl rfl (by decide) (fill_stepN (p := fun _ => .int .u64 (s.now : Nat)) rfl rfl (by decide) (fill_stepN (p := fun _ => .int .u64 (s.births : Nat)) rfl rfl (by decide) (fill_stepN (p := hM s.held) rfl (by simp [Value.cells, mkA]) (by decide) (fill_stepN (p := hM s.claim) rfl (by simp [Value.cells, mkA]) (by decide) (fill_stepN (p := uF s.cells) rfl (by simp [Value.cells, mkA]) (by decide) fill_nil))))))) rfl rfl rfl ?_
          refine SC.at rfl ?_
          -- R1.31 3 := kernel.go:216 alloc
          refine WL.allocN (m := 771) st zero50 rfl rfl ?_
          intro b3 w st
          refine SC.nxt (by first | exact st | exact st.drop) ?_
          refine SC.at rfl ?_
          -- R1.32 None := kernel.go:216 store
          refine WL.storeN st ty_agg50 rfl rfl (fun k hk => by rw [sF_base (s := s) hk]; exact sF_one (fun _ _ => rfl) k hk) (by decide) rfl rfl ?_
          intro w st
          have st : S0 w0 (sI b3 (bareS s fun _ => tk0) nilQ :: sI b2 ks0 nilQ :: Y) w := stE (fun k hk => by rw [upds_eq, if_pos (by omega), Nat.sub_zero]; exact sF_base hk) st
          refine SC.nxt (by first | exact st | exact st.drop) ?_
          refine SC.wl ?_
          refine WL.join hKC (fun _ _ h => h) b3 st (by repeat (first | exact sub_nil _ | refine sub_cons rfl rfl ?_))
        · skip
          -- R1.31 3 := kernel.go:216 alloc
          refine WL.allocN (m := 771) st zero50 rfl rfl ?_
          intro b3 w st
          refine SC.nxt (by first | exact st | exact st.drop) ?_
          refine SC.at rfl ?_
          -- R1.25 32 := kernel.go:218 call
          refine WL.call (r_call ty_call91 rfl) rfl rfl rfl (claims_ok (mode := s.mode) (claim := s.claim) (by first | exact List.mem_cons_of_mem _ V.p | exact List.mem_cons_of_mem _ (List.mem_cons_of_mem _ V.p)) st) ?_
          rintro _ w ⟨rfl, st⟩
          refine SC.nxt (by first | exact st | exact st.drop) ?_
          -- R1.30 37 := kernel.go:216 build
          refine SC.v rfl (fun w st => by exact r_buildN (n := 771) (z := sF ks0 nilQ) (v := upds (upds (upds (upds (upds (upds (sF ks0 nilQ) 0 1 fun _ => .int .i64 (s.mode : Nat)) 1 1 fun _ => .int .u64 (s.now : Nat)) 2 1 fun _ => .int .u64 (s.births : Nat)) 99 320 (hM s.held)) 419 320 (hM s.claim)) 759 12 (uF s.cells)) (ps := [(0, .int .i64 (s.mode : Nat)), (1, .int .u64 (s.now : Nat)), (2, .int .u64 (s.births : Nat)), (4, .agg (mkA 320 (hM s.held))), (5, .agg (mkA 320 (hM s.claim))), (7, .agg (mkA 12 (uF s.cells)))]) ty_pl50 zero50 rfl (fill_stepN (p := fun _ => .int .i64 (s.mode : Nat)) rfl rfl (by decide) (fill_stepN (p := fun _ => .int .u64 (s.now : Nat)) rfl rfl (by decide) (fill_stepN (p := fun _ => .int .u64 (s.births : Nat)) rfl rfl (by decide) (fill_stepN (p := hM s.held) rfl (by simp [Value.cells, mkA]) (by decide) (fill_stepN (p := hM s.claim) rfl (by simp [Value.cells, mkA]) (by decide) (fill_stepN (p := uF s.cells) rfl (by simp [Value.cells, mkA]) (by decide) fill_nil))))))) rfl rfl rfl ?_
          refine SC.at rfl ?_
          -- R1.32 None := kernel.go:216 store
          refine WL.storeN st ty_agg50 rfl rfl (fun k hk => by rw [sF_base (s := s) hk]; exact sF_one (fun _ _ => rfl) k hk) (by decide) rfl rfl ?_
          intro w st
          have st : S0 w0 (sI b3 (bareS s fun _ => tk0) nilQ :: sI b2 ks0 nilQ :: Y) w := stE (fun k hk => by rw [upds_eq, if_pos (by omega), Nat.sub_zero]; exact sF_base hk) st
          refine SC.nxt (by first | exact st | exact st.drop) ?_
          refine SC.wl ?_
          refine WL.join hKC (fun _ _ h => h) b3 st (by repeat (first | exact sub_nil _ | refine sub_cons rfl rfl ?_))
      · skip
        -- R1.31 3 := kernel.go:216 alloc
        refine WL.allocN (m := 771) st zero50 rfl rfl ?_
        intro b3 w st
        refine SC.nxt (by first | exact st | exact st.drop) ?_
        refine SC.at rfl ?_
        -- R1.20 27 := kernel.go:218 call
        refine WL.call (r_call ty_call90 rfl) rfl rfl rfl (matrix_ok (held := s.held) (qv := qv0) (by first | exact List.mem_cons_of_mem _ V.r | exact List.mem_cons_of_mem _ (List.mem_cons_of_mem _ V.r)) st) ?_
        rintro _ w ⟨rfl, st⟩
        refine SC.nxt (by first | exact st | exact st.drop) ?_
        refine SC.at rfl ?_
        -- R1.25 32 := kernel.go:218 call
        refine WL.call (r_call ty_call91 rfl) rfl rfl rfl (claims_ok (mode := s.mode) (claim := s.claim) (by first | exact List.mem_cons_of_mem _ V.p | exact List.mem_cons_of_mem _ (List.mem_cons_of_mem _ V.p)) st) ?_
        rintro _ w ⟨rfl, st⟩
        refine SC.nxt (by first | exact st | exact st.drop) ?_
        -- R1.30 37 := kernel.go:216 build
        refine SC.v rfl (fun w st => by exact r_buildN (n := 771) (z := sF ks0 nilQ) (v := upds (upds (upds (upds (upds (upds (sF ks0 nilQ) 0 1 fun _ => .int .i64 (s.mode : Nat)) 1 1 fun _ => .int .u64 (s.now : Nat)) 2 1 fun _ => .int .u64 (s.births : Nat)) 99 320 (hM s.held)) 419 320 (hM s.claim)) 759 12 (uF s.cells)) (ps := [(0, .int .i64 (s.mode : Nat)), (1, .int .u64 (s.now : Nat)), (2, .int .u64 (s.births : Nat)), (4, .agg (mkA 320 (hM s.held))), (5, .agg (mkA 320 (hM s.claim))), (7, .agg (mkA 12 (uF s.cells)))]) ty_pl50 zero50 rfl (fill_stepN (p := fun _ => .int .i64 (s.mode : Nat)) rfl rfl (by decide) (fill_stepN (p := fun _ => .int .u64 (s.now : Nat)) rfl rfl (by decide) (fill_stepN (p := fun _ => .int .u64 (s.births : Nat)) rfl rfl (by decide) (fill_stepN (p := hM s.held) rfl (by simp [Value.cells, mkA]) (by decide) (fill_stepN (p := hM s.claim) rfl (by simp [Value.cells, mkA]) (by decide) (fill_stepN (p := uF s.cells) rfl (by simp [Value.cells, mkA]) (by decide) fill_nil))))))) rfl rfl rfl ?_
        refine SC.at rfl ?_
        -- R1.32 None := kernel.go:216 store
        refine WL.storeN st ty_agg50 rfl rfl (fun k hk => by rw [sF_base (s := s) hk]; exact sF_one (fun _ _ => rfl) k hk) (by decide) rfl rfl ?_
        intro w st
        have st : S0 w0 (sI b3 (bareS s fun _ => tk0) nilQ :: sI b2 ks0 nilQ :: Y) w := stE (fun k hk => by rw [upds_eq, if_pos (by omega), Nat.sub_zero]; exact sF_base hk) st
        refine SC.nxt (by first | exact st | exact st.drop) ?_
        refine SC.wl ?_
        refine WL.join hKC (fun _ _ h => h) b3 st (by repeat (first | exact sub_nil _ | refine sub_cons rfl rfl ?_))
    · skip
      -- R1.31 3 := kernel.go:216 alloc
      refine WL.allocN (m := 771) st zero50 rfl rfl ?_
      intro b3 w st
      refine SC.nxt (by first | exact st | exact st.drop) ?_
      refine SC.at rfl ?_
      -- R1.11 18 := kernel.go:217 call
      refine WL.call (r_call ty_call89 rfl) rfl rfl rfl (now_ok (now := s.now) (armed := s.armed) (tv := tv) (by first | exact List.mem_cons_of_mem _ V.m | exact List.mem_cons_of_mem _ (List.mem_cons_of_mem _ V.m)) st) ?_
      rintro _ w ⟨rfl, st⟩
      refine SC.nxt (by first | exact st | exact st.drop) ?_
      refine SC.at rfl ?_
      -- R1.20 27 := kernel.go:218 call
      refine WL.call (r_call ty_call90 rfl) rfl rfl rfl (matrix_ok (held := s.held) (qv := qv0) (by first | exact List.mem_cons_of_mem _ V.r | exact List.mem_cons_of_mem _ (List.mem_cons_of_mem _ V.r)) st) ?_
      rintro _ w ⟨rfl, st⟩
      refine SC.nxt (by first | exact st | exact st.drop) ?_
      refine SC.at rfl ?_
      -- R1.25 32 := kernel.go:218 call
      refine WL.call (r_call ty_call91 rfl) rfl rfl rfl (claims_ok (mode := s.mode) (claim := s.claim) (by first | exact List.mem_cons_of_mem _ V.p | exact List.mem_cons_of_mem _ (List.mem_cons_of_mem _ V.p)) st) ?_
      rintro _ w ⟨rfl, st⟩
      refine SC.nxt (by first | exact st | exact st.drop) ?_
      -- R1.30 37 := kernel.go:216 build
      refine SC.v rfl (fun w st => by exact r_buildN (n := 771) (z := sF ks0 nilQ) (v := upds (upds (upds (upds (upds (upds (sF ks0 nilQ) 0 1 fun _ => .int .i64 (s.mode : Nat)) 1 1 fun _ => .int .u64 (s.now : Nat)) 2 1 fun _ => .int .u64 (s.births : Nat)) 99 320 (hM s.held)) 419 320 (hM s.claim)) 759 12 (uF s.cells)) (ps := [(0, .int .i64 (s.mode : Nat)), (1, .int .u64 (s.now : Nat)), (2, .int .u64 (s.births : Nat)), (4, .agg (mkA 320 (hM s.held))), (5, .agg (mkA 320 (hM s.claim))), (7, .agg (mkA 12 (uF s.cells)))]) ty_pl50 zero50 rfl (fill_stepN (p := fun _ => .int .i64 (s.mode : Nat)) rfl rfl (by decide) (fill_stepN (p := fun _ => .int .u64 (s.now : Nat)) rfl rfl (by decide) (fill_stepN (p := fun _ => .int .u64 (s.births : Nat)) rfl rfl (by decide) (fill_stepN (p := hM s.held) rfl (by simp [Value.cells, mkA]) (by decide) (fill_stepN (p := hM s.claim) rfl (by simp [Value.cells, mkA]) (by decide) (fill_stepN (p := uF s.cells) rfl (by simp [Value.cells, mkA]) (by decide) fill_nil))))))) rfl rfl rfl ?_
      refine SC.at rfl ?_
      -- R1.32 None := kernel.go:216 store
      refine WL.storeN st ty_agg50 rfl rfl (fun k hk => by rw [sF_base (s := s) hk]; exact sF_one (fun _ _ => rfl) k hk) (by decide) rfl rfl ?_
      intro w st
      have st : S0 w0 (sI b3 (bareS s fun _ => tk0) nilQ :: sI b2 ks0 nilQ :: Y) w := stE (fun k hk => by rw [upds_eq, if_pos (by omega), Nat.sub_zero]; exact sF_base hk) st
      refine SC.nxt (by first | exact st | exact st.drop) ?_
      refine SC.wl ?_
      refine WL.join hKC (fun _ _ h => h) b3 st (by repeat (first | exact sub_nil _ | refine sub_cons rfl rfl ?_))
  clear st
  rintro b3 w st
  refine WC.seq fun K1345 hK1345 => ?_
  refine WC.seq fun K1346 hK1346 => ?_
  -- region 2
  refine WC.region ?_
  -- R2.0 38 := kernel.go:220 move
  refine WL.v (by first | exact r_move (v := .int _ _) rfl | exact r_move rfl) rfl rfl rfl ?_
  refine WL.fin hK1346 (fun _ _ h => h) ?_
  refine WC.block ?_
  refine WC.loop (ι := Nat × (Nat → TK)) (fun y => [(0, .pointer (some ⟨B.bk, 0, none⟩)), (2, .pointer (some ⟨b2, 0, none⟩)), (3, .pointer (some ⟨b3, 0, none⟩)), (38, .int .i64 (y.1 : Nat))])
    (fun y w' => y.1 ≤ 16 ∧ (∀ i, i < y.1 → y.2 i = s.tk i) ∧ S0 w0 (sI b3 (bareS s y.2) nilQ :: sI b2 ks0 nilQ :: Y) w') (fun y => 16 - y.1) (0, fun _ => tk0) ⟨Nat.zero_le _, fun i hi => absurd hi (Nat.not_lt_zero _), st⟩ ?_ ?_
  · skip
    repeat (first | exact sub_nil _ | refine sub_cons rfl rfl ?_)
  clear st
  rintro ⟨i, F⟩ w ⟨hi, hF, st⟩ K1 hK1
  dsimp only at hi hF st ⊢
  by_cases h16 : i = 16
  rotate_left
  · have hi' : i < 16 := by omega
    have hmk := List.mem_cons_of_mem (sI b3 (bareS s F) nilQ) (List.mem_cons_of_mem (sI b2 ks0 nilQ) V.k)
    refine WC.seq fun K1347 hK1347 => ?_
    -- region 3
    refine WC.region ?_
    -- R3.0 39 := kernel.go:220 binOp
    refine WL.v (by first | exact r_lss rfl rfl (decide_eq_true (by omega)) | exact r_lss rfl rfl (decide_eq_false (by omega)) | exact r_lss rfl rfl rfl) rfl rfl rfl ?_
    refine WL.fin hK1347 (fun _ _ h => h) ?_
    refine WC.seq fun K1348 hK1348 => ?_
    refine WC.condT rfl rfl ?_
    refine WC.skipF hK1348 (fun _ _ h => h) ?_
    refine WC.seq fun K1349 hK1349 => ?_
    refine WC.block ?_
    refine WC.seq fun K1350 hK1350 => ?_
    -- region 4
    refine WC.region ?_
    -- R4.0 40 := kernel.go:220 move
    refine WL.v (by first | exact r_move (v := .int _ _) rfl | exact r_move rfl) rfl rfl rfl ?_
    -- R4.1 4 := kernel.go:220 assign
    refine WL.v (by first | exact r_assign (v := .int _ _) rfl | exact r_assign rfl) rfl rfl rfl ?_
    refine WL.fin hK1350 (fun _ _ h => h) ?_
    refine WC.seq fun K1351 hK1351 => ?_
    -- region 5
    refine WC.region ?_
    -- R5.0 41 := kernel.go:221 move
    refine WL.v (by first | exact r_move (v := .pointer _) rfl | exact r_move rfl) rfl rfl rfl ?_
    -- R5.1 42 := kernel.go:221 move
    refine WL.v (by first | exact r_move (v := .int _ _) rfl | exact r_move rfl) rfl rfl rfl ?_
    -- R5.2 43 := kernel.go:221 nilCheck
    refine WL.v (by exact r_nilCheck rfl) rfl rfl rfl ?_
    -- R5.3 44 := kernel.go:221 fieldAddr
    refine WL.v (by exact r_field ty_fld120_3 rfl) rfl rfl rfl ?_
    -- R5.4 45 := kernel.go:221 indexAddr
    refine WL.v (by exact r_indexA (j := i) ty_ar118 rfl rfl rfl hi') rfl rfl rfl ?_
    -- R5.5 5 := kernel.go:221 assign
    refine WL.v (by first | exact r_assign (v := .pointer _) rfl | exact r_assign rfl) rfl rfl rfl ?_
    refine WL.fin hK1351 (fun _ _ h => h) ?_
    -- region 6 (draws)
    refine WC.tailS 29 st ty_mixed (by kernel_rfl) fun w st Kq hKq => ?_
    -- R6.0 46 := kernel.go:222 move
    refine SL.v (by first | exact r_move (v := .int _ _) rfl | exact r_move rfl) rfl rfl rfl ?_
    -- R6.1 47 := kernel.go:222 move
    refine SL.v (by first | exact r_move (v := .pointer _) rfl | exact r_move rfl) rfl rfl rfl ?_
    -- R6.2 48 := kernel.go:222 nilCheck
    refine SL.v (by exact r_nilCheck rfl) rfl rfl rfl ?_
    -- R6.3 49 := kernel.go:222 fieldAddr
    refine SL.v (by exact r_field ty_fld117_0 rfl) rfl rfl rfl ?_
    -- R6.4 50 := kernel.go:222 load
    refine SL.v (by exact r_load1 (v := .bool (s.tk i).live) ty_one4 rfl (c_tk hmk hi' (j := 0) (by decide) (by omega) st)) rfl rfl rfl ?_
    -- R6.5 51 := kernel.go:222 move
    refine SL.v (by first | exact r_move (v := .pointer _) rfl | exact r_move rfl) rfl rfl rfl ?_
    -- R6.6 52 := kernel.go:222 nilCheck
    refine SL.v (by exact r_nilCheck rfl) rfl rfl rfl ?_
    -- R6.7 53 := kernel.go:222 fieldAddr
    refine SL.v (by exact r_field ty_fld117_1 rfl) rfl rfl rfl ?_
    -- R6.8 54 := kernel.go:222 load
    refine SL.v (by exact r_load1 (v := .int .u64 ((s.tk i).birth : Nat)) ty_one26 rfl (c_tk hmk hi' (j := 1) (by decide) (by omega) st)) rfl rfl rfl ?_
    -- R6.9 55 := kernel.go:222 move
    refine SL.v (by first | exact r_move (v := .pointer _) rfl | exact r_move rfl) rfl rfl rfl ?_
    -- R6.10 56 := kernel.go:222 nilCheck
    refine SL.v (by exact r_nilCheck rfl) rfl rfl rfl ?_
    -- R6.11 57 := kernel.go:222 fieldAddr
    refine SL.v (by exact r_field ty_fld117_2 rfl) rfl rfl rfl ?_
    -- R6.12 58 := kernel.go:222 load
    refine SL.v (by exact r_load1 (v := .int .u64 ((s.tk i).epoch : Nat)) ty_one26 rfl (c_tk hmk hi' (j := 2) (by decide) (by omega) st)) rfl rfl rfl ?_
    -- R6.13 59 := kernel.go:222 move
    refine SL.v (by first | exact r_move (v := .pointer _) rfl | exact r_move rfl) rfl rfl rfl ?_
    -- R6.14 60 := kernel.go:222 nilCheck
    refine SL.v (by exact r_nilCheck rfl) rfl rfl rfl ?_
    -- R6.15 61 := kernel.go:222 fieldAddr
    refine SL.v (by exact r_field ty_fld117_3 rfl) rfl rfl rfl ?_
    -- R6.16 62 := kernel.go:222 load
    refine SL.v (by exact r_load1 (v := .bool (s.tk i).waiting) ty_one4 rfl (c_tk hmk hi' (j := 3) (by decide) (by omega) st)) rfl rfl rfl ?_
    -- R6.17 63 := kernel.go:222 move
    refine SL.v (by first | exact r_move (v := .pointer _) rfl | exact r_move rfl) rfl rfl rfl ?_
    -- R6.18 64 := kernel.go:222 nilCheck
    refine SL.v (by exact r_nilCheck rfl) rfl rfl rfl ?_
    -- R6.19 65 := kernel.go:222 fieldAddr
    refine SL.v (by exact r_field ty_fld117_5 rfl) rfl rfl rfl ?_
    -- R6.20 66 := kernel.go:222 load
    refine SL.v (by exact r_load1 (v := .int .u64 ((s.tk i).deadline : Nat)) ty_one26 rfl (c_tk hmk hi' (j := 5) (by decide) (by omega) st)) rfl rfl rfl ?_
    -- R6.21 67 := kernel.go:222 move
    refine SL.v (by first | exact r_move (v := .pointer _) rfl | exact r_move rfl) rfl rfl rfl ?_
    -- R6.22 68 := kernel.go:222 nilCheck
    refine SL.v (by exact r_nilCheck rfl) rfl rfl rfl ?_
    -- R6.23 69 := kernel.go:222 fieldAddr
    refine SL.v (by exact r_field ty_fld117_6 rfl) rfl rfl rfl ?_
    -- R6.24 70 := kernel.go:222 fieldAddr
    refine SL.v (by exact r_field ty_fld115_0 rfl) rfl rfl rfl ?_
    -- R6.25 71 := kernel.go:222 load
    refine SL.v (by exact r_load1 (v := .int .i64 ((s.tk i).n : Nat)) ty_one3 rfl (c_tk hmk hi' (j := 6) (by decide) (by omega) st)) rfl rfl rfl ?_
    -- R6.26 72 := kernel.go:222 build
    refine SL.v (by exact r_build (ps := [(0, .bool _), (1, .int _ _), (2, .int _ _), (3, .bool _), (4, .int _ _), (5, .int _ _)]) (vs := [_, _, _, _, _, _]) ty_pl42 ty_zero42 rfl (fill_step (pv := [_]) (cs' := [_, _, _, _, _, _]) rfl rfl rfl rfl (fill_step (pv := [_]) (cs' := [_, _, _, _, _, _]) rfl rfl rfl rfl (fill_step (pv := [_]) (cs' := [_, _, _, _, _, _]) rfl rfl rfl rfl (fill_step (pv := [_]) (cs' := [_, _, _, _, _, _]) rfl rfl rfl rfl (fill_step (pv := [_]) (cs' := [_, _, _, _, _, _]) rfl rfl rfl rfl (fill_step (pv := [_]) (cs' := [_, _, _, _, _, _]) rfl rfl rfl rfl (fill_nil)))))))) rfl rfl rfl ?_
    -- R6.27 73 := kernel.go:222 fieldAddr
    refine SL.v (by exact r_field ty_fld50_3 rfl) rfl rfl rfl ?_
    -- R6.28 74 := kernel.go:222 indexAddr
    refine SL.v (by exact r_indexA (j := i) ty_ar43 rfl rfl rfl hi') rfl rfl rfl ?_
    refine SL.fin hKq ?_
    -- R6.29 None := kernel.go:222 store
    first | refine WL.storeW (vs := [_, _, _, _, _, _]) st ty_agg42 rfl rfl rfl rfl rfl rfl ?_ | refine WL.storeL (vs := [_, _, _, _, _, _]) st ty_agg42 rfl rfl rfl rfl (by first | decide | omega) rfl rfl ?_ | refine WL.storeW (vs := [_, _, _, _, _, _]) st.front1 ty_agg42 rfl rfl rfl rfl rfl rfl ?_ | refine WL.storeL (vs := [_, _, _, _, _, _]) st.front1 ty_agg42 rfl rfl rfl rfl (by first | decide | omega) rfl rfl ?_ | refine WL.storeW (vs := [_, _, _, _, _, _]) st.front2 ty_agg42 rfl rfl rfl rfl rfl rfl ?_ | refine WL.storeL (vs := [_, _, _, _, _, _]) st.front2 ty_agg42 rfl rfl rfl rfl (by first | decide | omega) rfl rfl ?_ | refine WL.storeW (vs := [_, _, _, _, _, _]) st.front3 ty_agg42 rfl rfl rfl rfl rfl rfl ?_ | refine WL.storeL (vs := [_, _, _, _, _, _]) st.front3 ty_agg42 rfl rfl rfl rfl (by first | decide | omega) rfl rfl ?_ | refine WL.storeW (vs := [_, _, _, _, _, _]) st.front4 ty_agg42 rfl rfl rfl rfl rfl rfl ?_ | refine WL.storeL (vs := [_, _, _, _, _, _]) st.front4 ty_agg42 rfl rfl rfl rfl (by first | decide | omega) rfl rfl ?_ | refine WL.storeW (vs := [_, _, _, _, _, _]) st.front5 ty_agg42 rfl rfl rfl rfl rfl rfl ?_ | refine WL.storeL (vs := [_, _, _, _, _, _]) st.front5 ty_agg42 rfl rfl rfl rfl (by first | decide | omega) rfl rfl ?_ | refine WL.storeW (vs := [_, _, _, _, _, _]) st.front6 ty_agg42 rfl rfl rfl rfl rfl rfl ?_ | refine WL.storeL (vs := [_, _, _, _, _, _]) st.front6 ty_agg42 rfl rfl rfl rfl (by first | decide | omega) rfl rfl ?_ | refine WL.storeW (vs := [_, _, _, _, _, _]) st.front7 ty_agg42 rfl rfl rfl rfl rfl rfl ?_ | refine WL.storeL (vs := [_, _, _, _, _, _]) st.front7 ty_agg42 rfl rfl rfl rfl (by first | decide | omega) rfl rfl ?_ | refine WL.storeW (vs := [_, _, _, _, _, _]) st.front8 ty_agg42 rfl rfl rfl rfl rfl rfl ?_ | refine WL.storeL (vs := [_, _, _, _, _, _]) st.front8 ty_agg42 rfl rfl rfl rfl (by first | decide | omega) rfl rfl ?_
    intro w st
    refine WL.fin hK1349 (fun _ _ h => h) ?_
    -- region 7
    refine WC.region ?_
    -- R7.0 75 := kernel.go:220 binOp
    refine WL.v (by first | exact r_add rfl rfl (wi64 (by omega) (by omega)) | exact r_add rfl rfl rfl) rfl rfl rfl ?_
    -- R7.1 38 := kernel.go:220 move
    refine WL.v (by first | exact r_move (v := .int _ _) rfl | exact r_move rfl) rfl rfl rfl ?_
    refine WL.next hK1 (fun _ _ h => h) (i + 1, updN F i (s.tk i)) ⟨hi', fun j hj => by { have hj : j < i + 1 := hj; by_cases hji : j = i; · { subst hji; exact updN_same }; · { show updN F i _ j = _; rw [updN_ne hji]; exact hF j (by omega) } }, stE (sF_setT hi' (fun j hj => rfl)) st⟩ (by show 16 - (i + 1) < 16 - i; omega) (by repeat (first | exact sub_nil _ | refine sub_cons rfl rfl ?_))
  subst h16
  have st : S0 w0 (sI b3 s nilQ :: sI b2 ks0 nilQ :: (gather 20 (fun _ => []) ++ Y)) w := by
    rw [gather_nil]
    exact stE (f := sF (bareS s F) nilQ) (g := sF s nilQ) (sF_congr (s1 := bareS s F) (s2 := s) (fun t ht => hF t ht) rfl rfl rfl rfl rfl rfl) st
  clear hF
  refine WC.seq fun K1352 hK1352 => ?_
  -- region 3
  refine WC.region ?_
  -- R3.0 39 := kernel.go:220 binOp
  refine WL.v (by first | exact r_lss rfl rfl (decide_eq_true (by omega)) | exact r_lss rfl rfl (decide_eq_false (by omega)) | exact r_lss rfl rfl rfl) rfl rfl rfl ?_
  refine WL.fin hK1352 (fun _ _ h => h) ?_
  refine WC.seq fun K1353 hK1353 => ?_
  refine WC.condF rfl rfl ?_
  refine WC.exitF hK1345 (fun _ _ h => h) ?_
  refine WC.seq fun K1354 hK1354 => ?_
  refine WC.seq fun K1355 hK1355 => ?_
  -- region 8
  refine WC.region ?_
  -- R8.0 76 := kernel.go:226 move
  refine WL.v (by first | exact r_move (v := .int _ _) rfl | exact r_move rfl) rfl rfl rfl ?_
  refine WL.fin hK1355 (fun _ _ h => h) ?_
  refine WC.block ?_
  refine WC.loop (ι := Nat × (Nat → Value) × (Nat → List HI)) (fun y => [(0, .pointer (some ⟨B.bk, 0, none⟩)), (2, .pointer (some ⟨b2, 0, none⟩)), (3, .pointer (some ⟨b3, 0, none⟩)), (76, .int .i64 (y.1 : Nat))])
    (fun y w' => y.1 ≤ 20 ∧ (∀ r, r < y.1 → QL0 (y.2.1 r) (s.queue r) (y.2.2 r)) ∧ (∀ r, y.1 ≤ r → y.2.2 r = []) ∧ S0 w0 (sI b3 s y.2.1 :: sI b2 ks0 nilQ :: (gather 20 y.2.2 ++ Y)) w') (fun y => 20 - y.1) (0, nilQ, fun _ => []) ⟨Nat.zero_le _, fun i hi => absurd hi (Nat.not_lt_zero _), fun _ _ => rfl, st⟩ ?_ ?_
  · skip
    repeat (first | exact sub_nil _ | refine sub_cons rfl rfl ?_)
  clear st
  rintro ⟨i, qv, XS⟩ w ⟨hi, hq, hX, st⟩ K2 hK2
  dsimp only at hi hq hX st ⊢
  by_cases h20 : i = 20
  · subst h20
    refine WC.seq fun K1356 hK1356 => ?_
    -- region 9
    refine WC.region ?_
    -- R9.0 77 := kernel.go:226 binOp
    refine WL.v (by first | exact r_lss rfl rfl (decide_eq_true (by omega)) | exact r_lss rfl rfl (decide_eq_false (by omega)) | exact r_lss rfl rfl rfl) rfl rfl rfl ?_
    refine WL.fin hK1356 (fun _ _ h => h) ?_
    refine WC.seq fun K1357 hK1357 => ?_
    refine WC.condF rfl rfl ?_
    refine WC.exitF hK1354 (fun _ _ h => h) ?_
    refine WC.seq fun K1358 hK1358 => ?_
    -- region 13
    refine WC.region ?_
    -- R13.0 89 := kernel.go:229 load
    refine WL.v (by exact r_loadN (f := sF s qv) ty_agg50 rfl (fun k hk => by rw [Nat.zero_add]; exact st.c0 hk)) rfl rfl rfl ?_
    -- R13.1 None := kernel.go:229 store
    refine WL.storeN (st.front1) ty_agg50 rfl rfl (sF_one (fun r hr => ql_one (hq r hr))) (by omega) rfl rfl ?_
    intro w st
    refine WL.fin hK1358 (fun _ _ h => h) ?_
    refine WC.retCN (f := sF s qv) Tryz.results53 (fun _ _ h => h) rfl ty_agg50 rfl (fun k hk => by rw [st.c0 (by omega), upds_eq, if_pos (by omega), show 0 + k - 0 = k by omega]) ?_
    exact ⟨_, rfl, qv, XS, hq, rfl, V.back st.drop.drop⟩
  have hi' : i < 20 := by omega
  have hql := q_len_le (queue := s.queue) hi'
  have hsub : Y ⊆ sI b3 s qv :: sI b2 ks0 nilQ :: (gather 20 XS ++ Y) := fun x hx => List.mem_cons_of_mem _ (List.mem_cons_of_mem _ (List.mem_append_right _ hx))
  obtain ⟨R, h1, h2⟩ := q_split hi' XS
  rw [hX i (Nat.le_refl _)] at h1
  refine WC.seq fun K1359 hK1359 => ?_
  -- region 9
  refine WC.region ?_
  -- R9.0 77 := kernel.go:226 binOp
  refine WL.v (by first | exact r_lss rfl rfl (decide_eq_true (by omega)) | exact r_lss rfl rfl (decide_eq_false (by omega)) | exact r_lss rfl rfl rfl) rfl rfl rfl ?_
  refine WL.fin hK1359 (fun _ _ h => h) ?_
  refine WC.seq fun K1360 hK1360 => ?_
  refine WC.condT rfl rfl ?_
  refine WC.skipF hK1360 (fun _ _ h => h) ?_
  refine WC.seq fun K1361 hK1361 => ?_
  refine WC.block ?_
  refine WC.seq fun K1362 hK1362 => ?_
  -- region 10
  refine WC.region ?_
  -- R10.0 78 := kernel.go:226 move
  refine WL.v (by first | exact r_move (v := .int _ _) rfl | exact r_move rfl) rfl rfl rfl ?_
  -- R10.1 6 := kernel.go:226 assign
  refine WL.v (by first | exact r_assign (v := .int _ _) rfl | exact r_assign rfl) rfl rfl rfl ?_
  refine WL.fin hK1362 (fun _ _ h => h) ?_
  -- region 11
  refine WC.region ?_
  -- R11.0 79 := kernel.go:227 move
  refine WL.v (by first | exact r_move (v := .int _ _) rfl | exact r_move rfl) rfl rfl rfl ?_
  -- R11.1 80 := kernel.go:227 move
  refine WL.v (by first | exact r_move (v := .pointer _) rfl | exact r_move rfl) rfl rfl rfl ?_
  -- R11.2 81 := kernel.go:227 nilCheck
  refine WL.v (by exact r_nilCheck rfl) rfl rfl rfl ?_
  -- R11.3 82 := kernel.go:227 fieldAddr
  refine WL.v (by exact r_field ty_fld120_1 rfl) rfl rfl rfl ?_
  -- R11.4 83 := kernel.go:227 load
  refine WL.v (by exact r_load1 (v := .pointer (some ⟨B.br, 0, none⟩)) ty_one107 rfl (st.cell (hsub V.k) (by decide))) rfl rfl rfl ?_
  -- R11.5 84 := kernel.go:227 move
  refine WL.v (by first | exact r_move (v := .int _ _) rfl | exact r_move rfl) rfl rfl rfl ?_
  -- R11.6 85 := kernel.go:227 call
  refine WL.call (r_call ty_call92 rfl) rfl rfl rfl (queue_ok hi' (hsub V.r) (V.q i hi') (fun x hx => hsub (V.qs i hi' hx)) (by omega) st) ?_
  rintro _ w ⟨X', ho, st⟩
  obtain ⟨a', c', b', rfl, -, -, -, -⟩ := ho.form
  have hp : (X' ++ gather 20 XS).Perm (gather 20 (updN XS i X')) := ((h1.append_left X').trans (by rw [List.nil_append]; exact (h2 X').symm))
  have st : S0 w0 (sI b3 s qv :: sI b2 ks0 nilQ :: (gather 20 (updN XS i X') ++ Y)) w := (st.perm (by classical exact List.perm_iff_count.2 fun x => by simp only [List.count_append, List.count_cons, List.count_nil, List.append_eq, List.cons_append, List.nil_append, List.append_assoc, Nat.add_zero, Nat.zero_add] <;> ac_rfl) : S0 w0 (sI b3 s qv :: sI b2 ks0 nilQ :: (X' ++ gather 20 XS ++ Y)) w).perm ((hp.append_right Y).cons _ |>.cons _)
  -- R11.7 86 := kernel.go:227 fieldAddr
  refine WL.v (by exact r_field ty_fld50_6 rfl) rfl rfl rfl ?_
  -- R11.8 87 := kernel.go:227 indexAddr
  refine WL.v (by exact r_indexA (j := i) ty_ar47 rfl rfl rfl hi') rfl rfl rfl ?_
  -- R11.9 None := kernel.go:227 store
  refine WL.store (v := .slice a' _ c') st ty_one46 rfl rfl rfl (by omega) rfl rfl ?_
  intro w st
  have st := stE (sF_setQ hi') st
  refine WL.fin hK1361 (fun _ _ h => h) ?_
  -- region 12
  refine WC.region ?_
  -- R12.0 88 := kernel.go:226 binOp
  refine WL.v (by first | exact r_add rfl rfl (wi64 (by omega) (by omega)) | exact r_add rfl rfl rfl) rfl rfl rfl ?_
  -- R12.1 76 := kernel.go:226 move
  refine WL.v (by first | exact r_move (v := .int _ _) rfl | exact r_move rfl) rfl rfl rfl ?_
  refine WL.next hK2 (fun _ _ h => h) (i + 1, updN qv i (.slice a' (s.queue i).length c'), updN XS i X') ⟨hi', fun j hj => by { have hj : j < i + 1 := hj; by_cases hji : j = i; · { subst hji; show QL0 (updN qv j _ j) (s.queue j) (updN XS j X' j); rw [updN_same, updN_same]; exact ho }; · { show QL0 (updN qv i _ j) (s.queue j) (updN XS i X' j); rw [updN_ne hji, updN_ne hji]; exact hq j (by omega) } }, fun j hj => by { have hj : i + 1 ≤ j := hj; show updN XS i X' j = []; rw [updN_ne (by omega)]; exact hX j (by omega) }, st⟩ (by show 20 - (i + 1) < 20 - i; omega) (by repeat (first | exact sub_nil _ | refine sub_cons rfl rfl ?_))
end Go.Proofs.Qxb6500834aGreatDoor

