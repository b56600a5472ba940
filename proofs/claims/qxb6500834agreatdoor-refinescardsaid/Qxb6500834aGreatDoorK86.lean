import Derived.Test.Qxb6500834aGreatDoorK85
set_option linter.unusedVariables false
set_option linter.unusedSimpArgs false
set_option maxRecDepth 20000
namespace Go.Proofs.Qxb6500834aGreatDoor
open Go.RowKit Go.E1 Go.Kern
theorem ty_call124 : callT Tryz.prog 124 = true := by kernel_rfl
theorem ty_call126 : callT Tryz.prog 126 = true := by kernel_rfl
theorem ty_zero38 : zeroL Tryz.prog 38 = some [.int .u16 0] := by kernel_rfl
variable {w0 : World} {l X : List HI} {w : World} {s s' s0 : KS} {t r N n : Nat} {qv qv' : Nat → Value}
variable {P : List PQ} {m : MR} {pv tv v : Value} {mb : Nat → Nat} {bm : Nat} {T : List (Nat × Nat × Nat)} {O : Nat → Nat → Option Nat} {held claim : Nat → Nat → Nat}

/-! Reduction, by the model. -/
theorem or_sub {a b x : Nat} (h : a ||| 2 ^ x = b) : b.testBit x = true := by rw [← h]; exact or_bit.2 (.inr rfl)
theorem or_le {a x : Nat} : a ≤ a ||| 2 ^ x := Nat.left_le_or
set_option maxHeartbeats 8000000 in
theorem reducible_ok {XP : List HI} (hI : INV s) (hh : ∀ t r, s.held t r ≤ 16) (hrel : RelP s P) (hm : moI bm (mrOf s) pv tv mb ∈ l) (hp : PL0 pv P XP) (hX : XP ⊆ l) (st : S0 w0 l w) :
    Calls Tryz.prog 124 #[.pointer (some ⟨bm, 0, none⟩)] w (Ret fun v w' => ∃ m : Nat, v = .int .u16 (m : Nat) ∧ m < 65536 ∧ (∀ t, t < 16 → (m.testBit t = true ↔ Red (wantF s.held s.queue) t)) ∧ S0 w0 l w') := by
  obtain ⟨a, c, b, hpv, hc1, hc2, ha, hcell⟩ := hp.form
  refine enter [.pointer (some ⟨bm, 0, none⟩)] Tryz.func124 rfl Tryz.ntmps124 rfl ?_
  show WC _ _ _ 50 [] [(0, .pointer (some ⟨bm, 0, none⟩))] _
  refine WC.seq fun K3298 hK3298 => ?_
  -- region 0
  refine WC.region ?_
  -- R0.0 2 := model.go:378 assign
  refine WL.v (by first | exact r_assign (v := .int _ _) rfl | exact r_assign rfl) rfl rfl rfl ?_
  refine WL.fin hK3298 (fun _ _ h => h) ?_
  refine WC.seq fun K3299 hK3299 => ?_
  -- region 1
  refine WC.region ?_
  -- R1.0 3 := model.go:379 assign
  refine WL.v (by first | exact r_assign (v := .int _ _) rfl | exact r_assign rfl) rfl rfl rfl ?_
  refine WL.fin hK3299 (fun _ _ h => h) ?_
  refine WC.block ?_
  refine WC.loop (ι := Nat) (fun g => [(0, .pointer (some ⟨bm, 0, none⟩)), (3, .int .u16 (g : Nat))])
    (fun g w' => g < 65536 ∧ (∀ t, t < 16 → g.testBit t = true → Red (wantF s.held s.queue) t) ∧ S0 w0 l w') (fun g => 65536 - g) 0 ⟨by decide, (fun t _ k => by rw [Nat.zero_testBit] at k; cases k), st⟩ ?_ ?_
  · skip
    repeat (first | exact sub_nil _ | refine sub_cons rfl rfl ?_)
  clear st
  rintro g w ⟨hg, hred, st⟩ K1 hK1
  refine WC.block ?_
  refine WC.seq fun K3300 hK3300 => ?_
  -- region 2
  refine WC.region ?_
  -- R2.0 7 := model.go:381 move
  refine WL.v (by first | exact r_move (v := .int _ _) rfl | exact r_move rfl) rfl rfl rfl ?_
  -- R2.1 4 := model.go:381 assign
  refine WL.v (by first | exact r_assign (v := .int _ _) rfl | exact r_assign rfl) rfl rfl rfl ?_
  refine WL.fin hK3300 (fun _ _ h => h) ?_
  refine WC.seq fun K3301 hK3301 => ?_
  refine WC.seq fun K3302 hK3302 => ?_
  -- region 3
  refine WC.region ?_
  -- R3.0 5 := model.go:382 assign
  refine WL.v (by first | exact r_assign (v := .int _ _) rfl | exact r_assign rfl) rfl rfl rfl ?_
  refine WL.fin hK3302 (fun _ _ h => h) ?_
  refine WC.block ?_
  refine WC.loop (ι := Nat × Nat) (fun y => [(0, .pointer (some ⟨bm, 0, none⟩)), (3, .int .u16 (g : Nat)), (4, .int .u16 (y.2 : Nat)), (5, .int .i64 (y.1 : Nat))])
    (fun y w' => y.1 ≤ 16 ∧ y.2 < 65536 ∧ g ≤ y.2 ∧ (∀ t, t < 16 → y.2.testBit t = true → Red (wantF s.held s.queue) t) ∧ (y.2 = g → ∀ t, t < y.1 → g.testBit t = false → ¬ wantF s.held s.queue g.testBit t) ∧ S0 w0 l w') (fun y => 16 - y.1) (0, g) ⟨Nat.zero_le _, hg, Nat.le_refl _, hred, (fun _ t ht => absurd ht (Nat.not_lt_zero _)), st⟩ ?_ ?_
  · skip
    repeat (first | exact sub_nil _ | refine sub_cons rfl rfl ?_)
  clear st
  rintro ⟨k, e⟩ w ⟨hk, he, hge, hre, hcl, st⟩ K2 hK2
  dsimp only at hk he hge hre hcl st ⊢
  by_cases hk16 : k = 16
  · subst hk16
    by_cases heg : e = g
    · have hcl := hcl heg
      refine WC.seq fun K3303 hK3303 => ?_
      refine WC.seq fun K3304 hK3304 => ?_
      -- region 4
      refine WC.region ?_
      -- R4.0 8 := model.go:382 move
      refine WL.v (by first | exact r_move (v := .int _ _) rfl | exact r_move rfl) rfl rfl rfl ?_
      -- R4.1 9 := model.go:382 binOp
      refine WL.v (by first | exact r_lss rfl rfl (decide_eq_true (by omega)) | exact r_lss rfl rfl (decide_eq_false (by omega)) | exact r_lss rfl rfl rfl) rfl rfl rfl ?_
      refine WL.fin hK3304 (fun _ _ h => h) ?_
      refine WC.condF rfl rfl ?_
      refine WC.exitF hK3301 (fun _ _ h => h) ?_
      refine WC.seq fun K3305 hK3305 => ?_
      refine WC.seq fun K3306 hK3306 => ?_
      -- region 9
      refine WC.region ?_
      -- R9.0 45 := model.go:388 move
      refine WL.v (by first | exact r_move (v := .int _ _) rfl | exact r_move rfl) rfl rfl rfl ?_
      -- R9.1 46 := model.go:388 move
      refine WL.v (by first | exact r_move (v := .int _ _) rfl | exact r_move rfl) rfl rfl rfl ?_
      -- R9.2 47 := model.go:388 binOp
      refine WL.v (by exact r_eql rfl rfl (decide_eq_true (by omega))) rfl rfl rfl ?_
      refine WL.fin hK3306 (fun _ _ h => h) ?_
      refine WC.condT rfl rfl ?_
      refine WC.seq fun K3307 hK3307 => ?_
      -- region 10
      refine WC.region ?_
      -- R10.0 48 := model.go:389 move
      refine WL.v (by first | exact r_move (v := .int _ _) rfl | exact r_move rfl) rfl rfl rfl ?_
      -- R10.1 2 := model.go:389 assign
      refine WL.v (by first | exact r_assign (v := .int _ _) rfl | exact r_assign rfl) rfl rfl rfl ?_
      refine WL.fin hK3307 (fun _ _ h => h) ?_
      refine WC.ret1 Tryz.results124 (fun _ _ h => h) rfl ?_
      refine ⟨_, rfl, g, rfl, hg, fun t ht => ⟨fun h => hred t ht h, fun h => ?_⟩, st⟩
      exact Red.closed (a := g.testBit) hcl h
    · skip
      refine WC.seq fun K3308 hK3308 => ?_
      refine WC.seq fun K3309 hK3309 => ?_
      -- region 4
      refine WC.region ?_
      -- R4.0 8 := model.go:382 move
      refine WL.v (by first | exact r_move (v := .int _ _) rfl | exact r_move rfl) rfl rfl rfl ?_
      -- R4.1 9 := model.go:382 binOp
      refine WL.v (by first | exact r_lss rfl rfl (decide_eq_true (by omega)) | exact r_lss rfl rfl (decide_eq_false (by omega)) | exact r_lss rfl rfl rfl) rfl rfl rfl ?_
      refine WL.fin hK3309 (fun _ _ h => h) ?_
      refine WC.condF rfl rfl ?_
      refine WC.exitF hK3301 (fun _ _ h => h) ?_
      refine WC.seq fun K3310 hK3310 => ?_
      refine WC.seq fun K3311 hK3311 => ?_
      -- region 9
      refine WC.region ?_
      -- R9.0 45 := model.go:388 move
      refine WL.v (by first | exact r_move (v := .int _ _) rfl | exact r_move rfl) rfl rfl rfl ?_
      -- R9.1 46 := model.go:388 move
      refine WL.v (by first | exact r_move (v := .int _ _) rfl | exact r_move rfl) rfl rfl rfl ?_
      -- R9.2 47 := model.go:388 binOp
      refine WL.v (by exact r_eql rfl rfl (decide_eq_false (by omega))) rfl rfl rfl ?_
      refine WL.fin hK3311 (fun _ _ h => h) ?_
      refine WC.condF rfl rfl ?_
      refine WC.skipF hK3310 (fun _ _ h => h) ?_
      -- region 11
      refine WC.region ?_
      -- R11.0 49 := model.go:391 move
      refine WL.v (by first | exact r_move (v := .int _ _) rfl | exact r_move rfl) rfl rfl rfl ?_
      -- R11.1 3 := model.go:391 assign
      refine WL.v (by first | exact r_assign (v := .int _ _) rfl | exact r_assign rfl) rfl rfl rfl ?_
      refine WL.next hK1 (fun _ _ h => h) e ⟨he, hre, st⟩ (by omega) (by repeat (first | exact sub_nil _ | refine sub_cons rfl rfl ?_))
  have hk' : k < 16 := by omega
  rcases busy_or P k with hfree | ⟨i, p, hip, hpt⟩
  · have hwant : wantF s.held s.queue e.testBit k := fun q hq => by rw [rel_nowait hrel hfree] at hq; cases hq
    refine WC.seq fun K3312 hK3312 => ?_
    refine WC.seq fun K3313 hK3313 => ?_
    -- region 4
    refine WC.region ?_
    -- R4.0 8 := model.go:382 move
    refine WL.v (by first | exact r_move (v := .int _ _) rfl | exact r_move rfl) rfl rfl rfl ?_
    -- R4.1 9 := model.go:382 binOp
    refine WL.v (by first | exact r_lss rfl rfl (decide_eq_true (by omega)) | exact r_lss rfl rfl (decide_eq_false (by omega)) | exact r_lss rfl rfl rfl) rfl rfl rfl ?_
    refine WL.fin hK3313 (fun _ _ h => h) ?_
    refine WC.condT rfl rfl ?_
    refine WC.skipF hK3312 (fun _ _ h => h) ?_
    refine WC.seq fun K3314 hK3314 => ?_
    refine WC.block ?_
    refine WC.seq fun K3315 hK3315 => ?_
    -- region 6
    refine WC.region ?_
    -- R6.0 12 := model.go:383 move
    refine WL.v (by first | exact r_move (v := .pointer _) rfl | exact r_move rfl) rfl rfl rfl ?_
    -- R6.1 13 := model.go:383 move
    refine WL.v (by first | exact r_move (v := .int _ _) rfl | exact r_move rfl) rfl rfl rfl ?_
    -- R6.2 14 := model.go:383 call
    refine WL.call (r_call ty_call98 rfl) rfl rfl rfl (pl_none (t := k) hfree hm hp hX st) ?_
    rintro _ w ⟨rfl, st⟩
    -- R6.3 6 := model.go:383 assign
    refine WL.v (by first | exact r_assign (v := .int _ _) rfl | exact r_assign rfl) rfl rfl rfl ?_
    refine WL.fin hK3315 (fun _ _ h => h) ?_
    refine WC.seq fun K3316 hK3316 => ?_
    -- region 7 (draws)
    refine WC.quietS st ty_mixed (by kernel_rfl) fun Kq hKq => ?_
    -- R7.0 15 := model.go:384 move
    refine QL.v (fun w st => by first | exact r_move (v := .int _ _) rfl | exact r_move rfl) rfl rfl rfl ?_
    -- R7.1 16 := model.go:384 binOp
    refine QL.v (fun w st => by first | exact r_lss rfl rfl (decide_eq_true (by omega)) | exact r_lss rfl rfl (decide_eq_false (by omega)) | exact r_lss rfl rfl rfl) rfl rfl rfl ?_
    -- R7.2 17 := model.go:384 move
    refine QL.v (fun w st => by first | exact r_move (v := .bool _) rfl | exact r_move rfl) rfl rfl rfl ?_
    -- R7.3 18 := model.go:384 move
    refine QL.no rfl rfl ?_
    -- R7.4 19 := model.go:384 nilCheck
    refine QL.no rfl rfl ?_
    -- R7.5 20 := model.go:384 fieldAddr
    refine QL.no rfl rfl ?_
    -- R7.6 21 := model.go:384 load
    refine QL.no rfl rfl ?_
    -- R7.7 22 := model.go:384 move
    refine QL.no rfl rfl ?_
    -- R7.8 23 := model.go:384 indexAddr
    refine QL.no rfl rfl ?_
    -- R7.9 24 := model.go:384 fieldAddr
    refine QL.no rfl rfl ?_
    -- R7.10 25 := model.go:384 load
    refine QL.no rfl rfl ?_
    -- R7.11 26 := model.go:384 move
    refine QL.no rfl rfl ?_
    -- R7.12 27 := model.go:384 nilCheck
    refine QL.no rfl rfl ?_
    -- R7.13 28 := model.go:384 fieldAddr
    refine QL.no rfl rfl ?_
    -- R7.14 29 := model.go:384 move
    refine QL.no rfl rfl ?_
    -- R7.15 30 := model.go:384 nilCheck
    refine QL.no rfl rfl ?_
    -- R7.16 31 := model.go:384 fieldAddr
    refine QL.no rfl rfl ?_
    -- R7.17 32 := model.go:384 load
    refine QL.no rfl rfl ?_
    -- R7.18 33 := model.go:384 move
    refine QL.no rfl rfl ?_
    -- R7.19 34 := model.go:384 indexAddr
    refine QL.no rfl rfl ?_
    -- R7.20 35 := model.go:384 fieldAddr
    refine QL.no rfl rfl ?_
    -- R7.21 36 := model.go:384 load
    refine QL.no rfl rfl ?_
    -- R7.22 37 := model.go:384 move
    refine QL.no rfl rfl ?_
    -- R7.23 38 := model.go:384 call
    refine QL.no rfl rfl ?_
    -- R7.24 39 := model.go:384 binOp
    refine QL.no rfl rfl ?_
    -- R7.25 40 := model.go:384 pick
    refine QL.v (fun w st => by first | exact r_pickT (v := .bool _) rfl rfl | exact r_pickF (v := .bool _) rfl rfl) rfl rfl rfl ?_
    refine QL.wl hKq fun w st => ?_
    refine WL.fin hK3316 (fun _ _ h => h) ?_
    refine WC.condT rfl rfl ?_
    -- region 8
    refine WC.region ?_
    -- R8.0 41 := model.go:385 move
    refine WL.v (by first | exact r_move (v := .int _ _) rfl | exact r_move rfl) rfl rfl rfl ?_
    -- R8.1 42 := model.go:385 move
    refine WL.v (by first | exact r_move (v := .int _ _) rfl | exact r_move rfl) rfl rfl rfl ?_
    -- R8.2 43 := model.go:385 call
    refine WL.call (r_call ty_call30 rfl) rfl rfl rfl (bit_ok hk' st) ?_
    rintro _ w ⟨rfl, st⟩
    -- R8.3 44 := model.go:385 binOp
    refine WL.v (by exact r_or (r := ((e ||| 2 ^ k : Nat) : Int)) rfl rfl (or16 he (pow16 hk'))) rfl rfl rfl ?_
    -- R8.4 4 := model.go:385 assign
    refine WL.v (by first | exact r_assign (v := .int _ _) rfl | exact r_assign rfl) rfl rfl rfl ?_
    refine WL.fin hK3314 (fun _ _ h => h) ?_
    -- region 5
    refine WC.region ?_
    -- R5.0 10 := model.go:382 move
    refine WL.v (by first | exact r_move (v := .int _ _) rfl | exact r_move rfl) rfl rfl rfl ?_
    -- R5.1 11 := model.go:382 binOp
    refine WL.v (by first | exact r_add rfl rfl (wi64 (by omega) (by omega)) | exact r_add rfl rfl rfl) rfl rfl rfl ?_
    -- R5.2 5 := model.go:382 assign
    refine WL.v (by first | exact r_assign (v := .int _ _) rfl | exact r_assign rfl) rfl rfl rfl ?_
    refine WL.next hK2 (fun _ _ h => h) (k + 1, e ||| 2 ^ k) ⟨hk', orlt he (pow16 hk'), Nat.le_trans hge or_le, fun t ht h => ?_, fun hb t ht hf => ?_, st⟩ (by show 16 - (k + 1) < 16 - k; omega) (by repeat (first | exact sub_nil _ | refine sub_cons rfl rfl ?_))
    · rcases or_bit.1 h with q | q
      · exact hre t ht q
      · rw [q]; exact Red.step wantF_mono hk' hre hwant
    · have hle := or_le (a := e) (x := k)
      have hb : e ||| 2 ^ k = g := hb
      have heg : e = g := by omega
      by_cases eq : t = k
      · rw [eq, or_sub hb] at hf; cases hf
      · exact hcl heg t (by have ht : t < k + 1 := ht; omega) hf
  have hw := rel_wait hrel hI hip
  rw [hpt] at hw
  have hr20 := (hrel.l p (List.mem_of_getElem? hip)).2
  have hil : i < P.length := (List.getElem?_eq_some_iff.1 hip).1
  obtain rfl := ha (by omega)
  by_cases hf : ((p.u : Nat) : Int) ≤ fuB s.held p.r e.testBit
  · have hwant : wantF s.held s.queue e.testBit k := fun q hq => by rw [hw] at hq; cases hq; exact hf
    refine WC.seq fun K3317 hK3317 => ?_
    refine WC.seq fun K3318 hK3318 => ?_
    -- region 4
    refine WC.region ?_
    -- R4.0 8 := model.go:382 move
    refine WL.v (by first | exact r_move (v := .int _ _) rfl | exact r_move rfl) rfl rfl rfl ?_
    -- R4.1 9 := model.go:382 binOp
    refine WL.v (by first | exact r_lss rfl rfl (decide_eq_true (by omega)) | exact r_lss rfl rfl (decide_eq_false (by omega)) | exact r_lss rfl rfl rfl) rfl rfl rfl ?_
    refine WL.fin hK3318 (fun _ _ h => h) ?_
    refine WC.condT rfl rfl ?_
    refine WC.skipF hK3317 (fun _ _ h => h) ?_
    refine WC.seq fun K3319 hK3319 => ?_
    refine WC.block ?_
    refine WC.seq fun K3320 hK3320 => ?_
    -- region 6
    refine WC.region ?_
    -- R6.0 12 := model.go:383 move
    refine WL.v (by first | exact r_move (v := .pointer _) rfl | exact r_move rfl) rfl rfl rfl ?_
    -- R6.1 13 := model.go:383 move
    refine WL.v (by first | exact r_move (v := .int _ _) rfl | exact r_move rfl) rfl rfl rfl ?_
    -- R6.2 14 := model.go:383 call
    refine WL.call (r_call ty_call98 rfl) rfl rfl rfl (pl_some hrel.u hip hpt hm hp hX st) ?_
    rintro _ w ⟨rfl, st⟩
    -- R6.3 6 := model.go:383 assign
    refine WL.v (by first | exact r_assign (v := .int _ _) rfl | exact r_assign rfl) rfl rfl rfl ?_
    refine WL.fin hK3320 (fun _ _ h => h) ?_
    refine WC.seq fun K3321 hK3321 => ?_
    -- region 7 (draws)
    refine WC.quietS st ty_mixed (by kernel_rfl) fun Kq hKq => ?_
    -- R7.0 15 := model.go:384 move
    refine QL.v (fun w st => by first | exact r_move (v := .int _ _) rfl | exact r_move rfl) rfl rfl rfl ?_
    -- R7.1 16 := model.go:384 binOp
    refine QL.v (fun w st => by exact r_lss rfl rfl (decide_eq_false (by omega))) rfl rfl rfl ?_
    -- R7.2 17 := model.go:384 move
    refine QL.v (fun w st => by first | exact r_move (v := .bool _) rfl | exact r_move rfl) rfl rfl rfl ?_
    -- R7.3 18 := model.go:384 move
    refine QL.v (fun w st => by first | exact r_move (v := .pointer _) rfl | exact r_move rfl) rfl rfl rfl ?_
    -- R7.4 19 := model.go:384 nilCheck
    refine QL.v (fun w st => by exact r_nilCheck rfl) rfl rfl rfl ?_
    -- R7.5 20 := model.go:384 fieldAddr
    refine QL.v (fun w st => by exact r_field ty_fld98_9 rfl) rfl rfl rfl ?_
    -- R7.6 21 := model.go:384 load
    refine QL.v (fun w st => by exact r_load1 (v := .slice (some ⟨b, 0, none⟩) P.length c) ty_one96 rfl (by rw [← hpv]; exact c_m hm (by decide) rfl st)) rfl rfl rfl ?_
    -- R7.7 22 := model.go:384 move
    refine QL.v (fun w st => by first | exact r_move (v := .int _ _) rfl | exact r_move rfl) rfl rfl rfl ?_
    -- R7.8 23 := model.go:384 indexAddr
    refine QL.v (fun w st => by exact r_indexS (j := i) ty_sl96 rfl rfl rfl (by omega)) rfl rfl rfl ?_
    -- R7.9 24 := model.go:384 fieldAddr
    refine QL.v (fun w st => by exact r_field ty_fld102_2 rfl) rfl rfl rfl ?_
    -- R7.10 25 := model.go:384 load
    refine QL.v (fun w st => by exact r_load1 (v := .int .i64 (p.u : Nat)) ty_one3 rfl (c_pq (j := 2) (a := none) hcell hX hip (by decide) st)) rfl rfl rfl ?_
    -- R7.11 26 := model.go:384 move
    refine QL.v (fun w st => by first | exact r_move (v := .pointer _) rfl | exact r_move rfl) rfl rfl rfl ?_
    -- R7.12 27 := model.go:384 nilCheck
    refine QL.v (fun w st => by exact r_nilCheck rfl) rfl rfl rfl ?_
    -- R7.13 28 := model.go:384 fieldAddr
    refine QL.v (fun w st => by exact r_field ty_fld98_7 rfl) rfl rfl rfl ?_
    -- R7.14 29 := model.go:384 move
    refine QL.v (fun w st => by first | exact r_move (v := .pointer _) rfl | exact r_move rfl) rfl rfl rfl ?_
    -- R7.15 30 := model.go:384 nilCheck
    refine QL.v (fun w st => by exact r_nilCheck rfl) rfl rfl rfl ?_
    -- R7.16 31 := model.go:384 fieldAddr
    refine QL.v (fun w st => by exact r_field ty_fld98_9 rfl) rfl rfl rfl ?_
    -- R7.17 32 := model.go:384 load
    refine QL.v (fun w st => by exact r_load1 (v := .slice (some ⟨b, 0, none⟩) P.length c) ty_one96 rfl (by rw [← hpv]; exact c_m hm (by decide) rfl st)) rfl rfl rfl ?_
    -- R7.18 33 := model.go:384 move
    refine QL.v (fun w st => by first | exact r_move (v := .int _ _) rfl | exact r_move rfl) rfl rfl rfl ?_
    -- R7.19 34 := model.go:384 indexAddr
    refine QL.v (fun w st => by exact r_indexS (j := i) ty_sl96 rfl rfl rfl (by omega)) rfl rfl rfl ?_
    -- R7.20 35 := model.go:384 fieldAddr
    refine QL.v (fun w st => by exact r_field ty_fld102_1 rfl) rfl rfl rfl ?_
    -- R7.21 36 := model.go:384 load
    refine QL.v (fun w st => by exact r_load1 (v := .int .i64 (p.r : Nat)) ty_one77 rfl (c_pq (j := 1) (a := none) hcell hX hip (by decide) st)) rfl rfl rfl ?_
    -- R7.22 37 := model.go:384 move
    refine QL.v (fun w st => by first | exact r_move (v := .int _ _) rfl | exact r_move rfl) rfl rfl rfl ?_
    -- R7.23 38 := model.go:384 call
    refine QL.call (val := .int .i64 (fuB s.held p.r e.testBit)) (fun w st => r_call ty_call159 rfl) rfl rfl rfl (fun w st => freeM_ok (r := p.r) (gone := e) (held := s.held) he hr20 (fun t r => Nat.le_trans (hh t r) (by decide)) (matMH hm) st) ?_
    -- R7.24 39 := model.go:384 binOp
    refine QL.v (fun w st => by exact r_leq rfl rfl (decide_eq_true hf)) rfl rfl rfl ?_
    -- R7.25 40 := model.go:384 pick
    refine QL.v (fun w st => by first | exact r_pickT (v := .bool _) rfl rfl | exact r_pickF (v := .bool _) rfl rfl) rfl rfl rfl ?_
    refine QL.wl hKq fun w st => ?_
    refine WL.fin hK3321 (fun _ _ h => h) ?_
    refine WC.condT rfl rfl ?_
    -- region 8
    refine WC.region ?_
    -- R8.0 41 := model.go:385 move
    refine WL.v (by first | exact r_move (v := .int _ _) rfl | exact r_move rfl) rfl rfl rfl ?_
    -- R8.1 42 := model.go:385 move
    refine WL.v (by first | exact r_move (v := .int _ _) rfl | exact r_move rfl) rfl rfl rfl ?_
    -- R8.2 43 := model.go:385 call
    refine WL.call (r_call ty_call30 rfl) rfl rfl rfl (bit_ok hk' st) ?_
    rintro _ w ⟨rfl, st⟩
    -- R8.3 44 := model.go:385 binOp
    refine WL.v (by exact r_or (r := ((e ||| 2 ^ k : Nat) : Int)) rfl rfl (or16 he (pow16 hk'))) rfl rfl rfl ?_
    -- R8.4 4 := model.go:385 assign
    refine WL.v (by first | exact r_assign (v := .int _ _) rfl | exact r_assign rfl) rfl rfl rfl ?_
    refine WL.fin hK3319 (fun _ _ h => h) ?_
    -- region 5
    refine WC.region ?_
    -- R5.0 10 := model.go:382 move
    refine WL.v (by first | exact r_move (v := .int _ _) rfl | exact r_move rfl) rfl rfl rfl ?_
    -- R5.1 11 := model.go:382 binOp
    refine WL.v (by first | exact r_add rfl rfl (wi64 (by omega) (by omega)) | exact r_add rfl rfl rfl) rfl rfl rfl ?_
    -- R5.2 5 := model.go:382 assign
    refine WL.v (by first | exact r_assign (v := .int _ _) rfl | exact r_assign rfl) rfl rfl rfl ?_
    refine WL.next hK2 (fun _ _ h => h) (k + 1, e ||| 2 ^ k) ⟨hk', orlt he (pow16 hk'), Nat.le_trans hge or_le, fun t ht h => ?_, fun hb t ht hf => ?_, st⟩ (by show 16 - (k + 1) < 16 - k; omega) (by repeat (first | exact sub_nil _ | refine sub_cons rfl rfl ?_))
    · rcases or_bit.1 h with q | q
      · exact hre t ht q
      · rw [q]; exact Red.step wantF_mono hk' hre hwant
    · have hle := or_le (a := e) (x := k)
      have hb : e ||| 2 ^ k = g := hb
      have heg : e = g := by omega
      by_cases eq : t = k
      · rw [eq, or_sub hb] at hf; cases hf
      · exact hcl heg t (by have ht : t < k + 1 := ht; omega) hf
  · skip
    refine WC.seq fun K3322 hK3322 => ?_
    refine WC.seq fun K3323 hK3323 => ?_
    -- region 4
    refine WC.region ?_
    -- R4.0 8 := model.go:382 move
    refine WL.v (by first | exact r_move (v := .int _ _) rfl | exact r_move rfl) rfl rfl rfl ?_
    -- R4.1 9 := model.go:382 binOp
    refine WL.v (by first | exact r_lss rfl rfl (decide_eq_true (by omega)) | exact r_lss rfl rfl (decide_eq_false (by omega)) | exact r_lss rfl rfl rfl) rfl rfl rfl ?_
    refine WL.fin hK3323 (fun _ _ h => h) ?_
    refine WC.condT rfl rfl ?_
    refine WC.skipF hK3322 (fun _ _ h => h) ?_
    refine WC.seq fun K3324 hK3324 => ?_
    refine WC.block ?_
    refine WC.seq fun K3325 hK3325 => ?_
    -- region 6
    refine WC.region ?_
    -- R6.0 12 := model.go:383 move
    refine WL.v (by first | exact r_move (v := .pointer _) rfl | exact r_move rfl) rfl rfl rfl ?_
    -- R6.1 13 := model.go:383 move
    refine WL.v (by first | exact r_move (v := .int _ _) rfl | exact r_move rfl) rfl rfl rfl ?_
    -- R6.2 14 := model.go:383 call
    refine WL.call (r_call ty_call98 rfl) rfl rfl rfl (pl_some hrel.u hip hpt hm hp hX st) ?_
    rintro _ w ⟨rfl, st⟩
    -- R6.3 6 := model.go:383 assign
    refine WL.v (by first | exact r_assign (v := .int _ _) rfl | exact r_assign rfl) rfl rfl rfl ?_
    refine WL.fin hK3325 (fun _ _ h => h) ?_
    refine WC.seq fun K3326 hK3326 => ?_
    -- region 7 (draws)
    refine WC.quietS st ty_mixed (by kernel_rfl) fun Kq hKq => ?_
    -- R7.0 15 := model.go:384 move
    refine QL.v (fun w st => by first | exact r_move (v := .int _ _) rfl | exact r_move rfl) rfl rfl rfl ?_
    -- R7.1 16 := model.go:384 binOp
    refine QL.v (fun w st => by exact r_lss rfl rfl (decide_eq_false (by omega))) rfl rfl rfl ?_
    -- R7.2 17 := model.go:384 move
    refine QL.v (fun w st => by first | exact r_move (v := .bool _) rfl | exact r_move rfl) rfl rfl rfl ?_
    -- R7.3 18 := model.go:384 move
    refine QL.v (fun w st => by first | exact r_move (v := .pointer _) rfl | exact r_move rfl) rfl rfl rfl ?_
    -- R7.4 19 := model.go:384 nilCheck
    refine QL.v (fun w st => by exact r_nilCheck rfl) rfl rfl rfl ?_
    -- R7.5 20 := model.go:384 fieldAddr
    refine QL.v (fun w st => by exact r_field ty_fld98_9 rfl) rfl rfl rfl ?_
    -- R7.6 21 := model.go:384 load
    refine QL.v (fun w st => by exact r_load1 (v := .slice (some ⟨b, 0, none⟩) P.length c) ty_one96 rfl (by rw [← hpv]; exact c_m hm (by decide) rfl st)) rfl rfl rfl ?_
    -- R7.7 22 := model.go:384 move
    refine QL.v (fun w st => by first | exact r_move (v := .int _ _) rfl | exact r_move rfl) rfl rfl rfl ?_
    -- R7.8 23 := model.go:384 indexAddr
    refine QL.v (fun w st => by exact r_indexS (j := i) ty_sl96 rfl rfl rfl (by omega)) rfl rfl rfl ?_
    -- R7.9 24 := model.go:384 fieldAddr
    refine QL.v (fun w st => by exact r_field ty_fld102_2 rfl) rfl rfl rfl ?_
    -- R7.10 25 := model.go:384 load
    refine QL.v (fun w st => by exact r_load1 (v := .int .i64 (p.u : Nat)) ty_one3 rfl (c_pq (j := 2) (a := none) hcell hX hip (by decide) st)) rfl rfl rfl ?_
    -- R7.11 26 := model.go:384 move
    refine QL.v (fun w st => by first | exact r_move (v := .pointer _) rfl | exact r_move rfl) rfl rfl rfl ?_
    -- R7.12 27 := model.go:384 nilCheck
    refine QL.v (fun w st => by exact r_nilCheck rfl) rfl rfl rfl ?_
    -- R7.13 28 := model.go:384 fieldAddr
    refine QL.v (fun w st => by exact r_field ty_fld98_7 rfl) rfl rfl rfl ?_
    -- R7.14 29 := model.go:384 move
    refine QL.v (fun w st => by first | exact r_move (v := .pointer _) rfl | exact r_move rfl) rfl rfl rfl ?_
    -- R7.15 30 := model.go:384 nilCheck
    refine QL.v (fun w st => by exact r_nilCheck rfl) rfl rfl rfl ?_
    -- R7.16 31 := model.go:384 fieldAddr
    refine QL.v (fun w st => by exact r_field ty_fld98_9 rfl) rfl rfl rfl ?_
    -- R7.17 32 := model.go:384 load
    refine QL.v (fun w st => by exact r_load1 (v := .slice (some ⟨b, 0, none⟩) P.length c) ty_one96 rfl (by rw [← hpv]; exact c_m hm (by decide) rfl st)) rfl rfl rfl ?_
    -- R7.18 33 := model.go:384 move
    refine QL.v (fun w st => by first | exact r_move (v := .int _ _) rfl | exact r_move rfl) rfl rfl rfl ?_
    -- R7.19 34 := model.go:384 indexAddr
    refine QL.v (fun w st => by exact r_indexS (j := i) ty_sl96 rfl rfl rfl (by omega)) rfl rfl rfl ?_
    -- R7.20 35 := model.go:384 fieldAddr
    refine QL.v (fun w st => by exact r_field ty_fld102_1 rfl) rfl rfl rfl ?_
    -- R7.21 36 := model.go:384 load
    refine QL.v (fun w st => by exact r_load1 (v := .int .i64 (p.r : Nat)) ty_one77 rfl (c_pq (j := 1) (a := none) hcell hX hip (by decide) st)) rfl rfl rfl ?_
    -- R7.22 37 := model.go:384 move
    refine QL.v (fun w st => by first | exact r_move (v := .int _ _) rfl | exact r_move rfl) rfl rfl rfl ?_
    -- R7.23 38 := model.go:384 call
    refine QL.call (val := .int .i64 (fuB s.held p.r e.testBit)) (fun w st => r_call ty_call159 rfl) rfl rfl rfl (fun w st => freeM_ok (r := p.r) (gone := e) (held := s.held) he hr20 (fun t r => Nat.le_trans (hh t r) (by decide)) (matMH hm) st) ?_
    -- R7.24 39 := model.go:384 binOp
    refine QL.v (fun w st => by exact r_leq rfl rfl (decide_eq_false hf)) rfl rfl rfl ?_
    -- R7.25 40 := model.go:384 pick
    refine QL.v (fun w st => by first | exact r_pickT (v := .bool _) rfl rfl | exact r_pickF (v := .bool _) rfl rfl) rfl rfl rfl ?_
    refine QL.wl hKq fun w st => ?_
    refine WL.fin hK3326 (fun _ _ h => h) ?_
    refine WC.condF rfl rfl ?_
    refine WC.skipF hK3324 (fun _ _ h => h) ?_
    -- region 5
    refine WC.region ?_
    -- R5.0 10 := model.go:382 move
    refine WL.v (by first | exact r_move (v := .int _ _) rfl | exact r_move rfl) rfl rfl rfl ?_
    -- R5.1 11 := model.go:382 binOp
    refine WL.v (by first | exact r_add rfl rfl (wi64 (by omega) (by omega)) | exact r_add rfl rfl rfl) rfl rfl rfl ?_
    -- R5.2 5 := model.go:382 assign
    refine WL.v (by first | exact r_assign (v := .int _ _) rfl | exact r_assign rfl) rfl rfl rfl ?_
    refine WL.next hK2 (fun _ _ h => h) (k + 1, e) ⟨hk', he, hge, hre, fun hb t ht hff => ?_, st⟩ (by show 16 - (k + 1) < 16 - k; omega) (by repeat (first | exact sub_nil _ | refine sub_cons rfl rfl ?_))
    have hb : e = g := hb
    by_cases eq : t = k
    · intro hwant
      rw [eq] at hwant
      have := hwant _ hw
      rw [← hb] at this
      exact hf this
    · exact hcl hb t (by have ht : t < k + 1 := ht; omega) hff
/-! The detector, by the model. -/
def vkF (m : Nat) (work : Nat → Nat) (k : Nat) : Int := ((List.range k).filter fun i => m.testBit i).foldl (vicF work) (-1)
theorem vkF_succ {m k : Nat} {work : Nat → Nat} : vkF m work (k + 1) = if m.testBit k = true then vicF work (vkF m work k) k else vkF m work k := by
  unfold vkF
  rw [List.range_succ, List.filter_append, List.foldl_append]
  by_cases h : m.testBit k = true
  · rw [if_pos h, List.filter_cons, if_pos h]; rfl
  · rw [if_neg h, List.filter_cons, if_neg h]; rfl
theorem vkF_or {m k : Nat} {work : Nat → Nat} (hk : k ≤ 16) : vkF m work k = -1 ∨ ∃ n : Nat, n < 16 ∧ vkF m work k = n := vic_or _ _ (fun o h => by have := List.mem_range.1 (List.mem_filter.1 h).1; omega) (.inl rfl)
set_option maxHeartbeats 8000000 in
theorem detectM_ok (hD : gD w0) (hB : KB N s) (hN : N + 1 ≤ 1000000) (hI : INV s) (hct : CT s) (hrel : RelP s P) (st : MK w0 bm mb s P l w) :
    Calls Tryz.prog 97 #[.pointer (some ⟨bm, 0, none⟩)] w (Ret fun v w' => v = .tuple #[.int .i64 (detectP s).2.1, .int .i64 (detectP s).2.2] ∧ ∃ P', RelP (detectP s).1 P' ∧ MK w0 bm mb (detectP s).1 P' l w') := by
  obtain ⟨pv, XP, tv, XO, hp, ho, st⟩ := st
  have hX : XP ⊆ moI bm (mrOf s) pv tv mb :: (XP ++ (XO ++ (mpI mb (odF s) ++ l))) := fun x hx => List.mem_cons_of_mem _ (List.mem_append_left _ hx)
  obtain ⟨ms, hms⟩ : ∃ ms, ms = (cycleP (waitsP s.held s.queue) &&& stuckP s.held s.queue) := ⟨_, rfl⟩
  have hbit : ∀ k, k < 16 → (ms.testBit k = true ↔ Pt (Ed s.held s.queue) 16 k k ∧ ¬ Red (wantF s.held s.queue) k) := fun k hk => by
    rw [hms, Nat.testBit_and, Bool.and_eq_true]
    exact and_congr (cycleP_spec hk) (stuckP_spec hk)
  have hvic : vkF ms (fun i => (s.tk i).n) 16 = victimP s := by rw [hms]; rfl
  have hnb := hB.n
  refine enter [.pointer (some ⟨bm, 0, none⟩)] Tryz.func97 rfl Tryz.ntmps97 rfl ?_
  show WC _ _ _ 50 [] [(0, .pointer (some ⟨bm, 0, none⟩))] _
  refine WC.seq fun K3327 hK3327 => ?_
  -- region 0
  refine WC.region ?_
  -- R0.0 2 := model.go:395 assign
  refine WL.v (by first | exact r_assign (v := .int _ _) rfl | exact r_assign rfl) rfl rfl rfl ?_
  -- R0.1 3 := model.go:395 assign
  refine WL.v (by first | exact r_assign (v := .int _ _) rfl | exact r_assign rfl) rfl rfl rfl ?_
  refine WL.fin hK3327 (fun _ _ h => h) ?_
  refine WC.seq fun K3328 hK3328 => ?_
  -- region 1
  refine WC.region ?_
  -- R1.0 7 := model.go:396 move
  refine WL.v (by first | exact r_move (v := .pointer _) rfl | exact r_move rfl) rfl rfl rfl ?_
  -- R1.1 8 := model.go:396 call
  refine WL.call (r_call ty_call124 rfl) rfl rfl rfl (reducible_ok hI hB.held hrel List.mem_cons_self hp hX st) ?_
  rintro _ w ⟨dn, rfl, hdl, hdb, st⟩
  -- R1.2 4 := model.go:396 assign
  refine WL.v (by first | exact r_assign (v := .int _ _) rfl | exact r_assign rfl) rfl rfl rfl ?_
  refine WL.fin hK3328 (fun _ _ h => h) ?_
  refine WC.seq fun K3329 hK3329 => ?_
  -- region 2
  refine WC.region ?_
  -- R2.0 5 := model.go:397 assign
  refine WL.v (by first | exact r_assign (v := .int _ _) rfl | exact r_assign rfl) rfl rfl rfl ?_
  refine WL.fin hK3329 (fun _ _ h => h) ?_
  refine WC.seq fun K3330 hK3330 => ?_
  refine WC.seq fun K3331 hK3331 => ?_
  -- region 3
  refine WC.region ?_
  -- R3.0 6 := model.go:398 assign
  refine WL.v (by first | exact r_assign (v := .int _ _) rfl | exact r_assign rfl) rfl rfl rfl ?_
  refine WL.fin hK3331 (fun _ _ h => h) ?_
  refine WC.block ?_
  refine WC.loop (ι := Nat) (fun k => [(0, .pointer (some ⟨bm, 0, none⟩)), (4, .int .u16 (dn : Nat)), (5, .int .i64 (vkF ms (fun i => (s.tk i).n) k)), (6, .int .i64 (k : Nat))])
    (fun k w' => k ≤ 16 ∧ S0 w0 (moI bm (mrOf s) pv tv mb :: (XP ++ (XO ++ (mpI mb (odF s) ++ l)))) w') (fun k => 16 - k) 0 ⟨Nat.zero_le _, st⟩ ?_ ?_
  · skip
    repeat (first | exact sub_nil _ | refine sub_cons rfl rfl ?_)
  clear st
  rintro k w ⟨hk, st⟩ K1 hK1
  by_cases hk16 : k = 16
  · subst hk16
    rw [hvic]
    rcases victimP_or (s := s) with hv | ⟨v, hv16, hv⟩
    · have ed : detectP s = (s, 2, -1) := by unfold detectP; exact if_pos hv
      rw [hv]
      refine WC.seq fun K3332 hK3332 => ?_
      refine WC.seq fun K3333 hK3333 => ?_
      -- region 4
      refine WC.region ?_
      -- R4.0 9 := model.go:398 move
      refine WL.v (by first | exact r_move (v := .int _ _) rfl | exact r_move rfl) rfl rfl rfl ?_
      -- R4.1 10 := model.go:398 binOp
      refine WL.v (by first | exact r_lss rfl rfl (decide_eq_true (by omega)) | exact r_lss rfl rfl (decide_eq_false (by omega)) | exact r_lss rfl rfl rfl) rfl rfl rfl ?_
      refine WL.fin hK3333 (fun _ _ h => h) ?_
      refine WC.condF rfl rfl ?_
      refine WC.exitF hK3330 (fun _ _ h => h) ?_
      refine WC.seq fun K3334 hK3334 => ?_
      refine WC.seq fun K3335 hK3335 => ?_
      -- region 9
      refine WC.region ?_
      -- R9.0 42 := model.go:406 move
      refine WL.v (by first | exact r_move (v := .int _ _) rfl | exact r_move rfl) rfl rfl rfl ?_
      -- R9.1 43 := model.go:406 binOp
      refine WL.v (by exact r_eql rfl rfl (decide_eq_true rfl)) rfl rfl rfl ?_
      refine WL.fin hK3335 (fun _ _ h => h) ?_
      refine WC.condT rfl rfl ?_
      refine WC.seq fun K3336 hK3336 => ?_
      -- region 10
      refine WC.region ?_
      -- R10.0 2 := model.go:407 assign
      refine WL.v (by first | exact r_assign (v := .int _ _) rfl | exact r_assign rfl) rfl rfl rfl ?_
      -- R10.1 3 := model.go:407 assign
      refine WL.v (by first | exact r_assign (v := .int _ _) rfl | exact r_assign rfl) rfl rfl rfl ?_
      refine WL.fin hK3336 (fun _ _ h => h) ?_
      refine WC.ret2 Tryz.results97 (fun _ _ h => h) rfl ?_
      exact ⟨_, rfl, by rw [ed]; rfl, P, by rw [ed]; exact hrel, by rw [ed]; exact ⟨pv, XP, tv, XO, hp, ho, st⟩⟩
    · have ed : detectP s = (wakeP (abortP s v), 0, (v : Int)) := by unfold detectP; rw [if_neg (by omega), hv, Int.toNat_natCast]
      rw [hv]
      have hc : Core [] s (abortP s v) := .abort (.refl s) v hv16
      refine WC.seq fun K3337 hK3337 => ?_
      refine WC.seq fun K3338 hK3338 => ?_
      -- region 4
      refine WC.region ?_
      -- R4.0 9 := model.go:398 move
      refine WL.v (by first | exact r_move (v := .int _ _) rfl | exact r_move rfl) rfl rfl rfl ?_
      -- R4.1 10 := model.go:398 binOp
      refine WL.v (by first | exact r_lss rfl rfl (decide_eq_true (by omega)) | exact r_lss rfl rfl (decide_eq_false (by omega)) | exact r_lss rfl rfl rfl) rfl rfl rfl ?_
      refine WL.fin hK3338 (fun _ _ h => h) ?_
      refine WC.condF rfl rfl ?_
      refine WC.exitF hK3330 (fun _ _ h => h) ?_
      refine WC.seq fun K3339 hK3339 => ?_
      refine WC.seq fun K3340 hK3340 => ?_
      -- region 9
      refine WC.region ?_
      -- R9.0 42 := model.go:406 move
      refine WL.v (by first | exact r_move (v := .int _ _) rfl | exact r_move rfl) rfl rfl rfl ?_
      -- R9.1 43 := model.go:406 binOp
      refine WL.v (by exact r_eql rfl rfl (decide_eq_false (by omega))) rfl rfl rfl ?_
      refine WL.fin hK3340 (fun _ _ h => h) ?_
      refine WC.condF rfl rfl ?_
      refine WC.skipF hK3339 (fun _ _ h => h) ?_
      refine WC.seq fun K3341 hK3341 => ?_
      -- region 11
      refine WC.region ?_
      -- R11.0 44 := model.go:409 move
      refine WL.v (by first | exact r_move (v := .pointer _) rfl | exact r_move rfl) rfl rfl rfl ?_
      -- R11.1 45 := model.go:409 move
      refine WL.v (by first | exact r_move (v := .int _ _) rfl | exact r_move rfl) rfl rfl rfl ?_
      -- R11.2 46 := model.go:409 call
      refine WL.call (r_call ty_call126 rfl) rfl rfl rfl (rollBackM_ok hv16 hB (by omega) hI hrel ⟨pv, XP, tv, XO, hp, ho, st⟩) ?_
      rintro _ w ⟨rfl, st⟩
      refine WL.fin hK3341 (fun _ _ h => h) ?_
      refine WC.seq fun K3342 hK3342 => ?_
      -- region 12
      refine WC.region ?_
      -- R12.0 47 := model.go:410 move
      refine WL.v (by first | exact r_move (v := .pointer _) rfl | exact r_move rfl) rfl rfl rfl ?_
      -- R12.1 48 := model.go:410 call
      refine WL.call (r_call ty_call123 rfl) rfl rfl rfl (settle_ok hD hB.abort (by omega) (hc.inv hI) hct hrel.abort st) ?_
      rintro _ w ⟨rfl, P', hrel', st⟩
      refine WL.fin hK3342 (fun _ _ h => h) ?_
      refine WC.seq fun K3343 hK3343 => ?_
      -- region 13
      refine WC.region ?_
      -- R13.0 49 := model.go:411 move
      refine WL.v (by first | exact r_move (v := .int _ _) rfl | exact r_move rfl) rfl rfl rfl ?_
      -- R13.1 2 := model.go:411 assign
      refine WL.v (by first | exact r_assign (v := .int _ _) rfl | exact r_assign rfl) rfl rfl rfl ?_
      -- R13.2 3 := model.go:411 assign
      refine WL.v (by first | exact r_assign (v := .int _ _) rfl | exact r_assign rfl) rfl rfl rfl ?_
      refine WL.fin hK3343 (fun _ _ h => h) ?_
      refine WC.ret2 Tryz.results97 (fun _ _ h => h) rfl ?_
      exact ⟨_, rfl, by rw [ed]; rfl, P', by rw [ed]; exact hrel', by rw [ed]; exact st⟩
  have hk' : k < 16 := by omega
  have hsucc := vkF_succ (m := ms) (work := (fun i => (s.tk i).n)) (k := k)
  rcases hdn : dn.testBit k with _ | _
  rotate_left
  · have hb : ms.testBit k = false := by
      cases hx : ms.testBit k with
      | false => rfl
      | true => exact absurd ((hdb k hk').1 hdn) ((hbit k hk').1 hx).2
    have e : vkF ms (fun i => (s.tk i).n) (k + 1) = vkF ms (fun i => (s.tk i).n) k := by rw [hsucc, hb]; rfl
    refine WC.seq fun K3344 hK3344 => ?_
    refine WC.seq fun K3345 hK3345 => ?_
    -- region 4
    refine WC.region ?_
    -- R4.0 9 := model.go:398 move
    refine WL.v (by first | exact r_move (v := .int _ _) rfl | exact r_move rfl) rfl rfl rfl ?_
    -- R4.1 10 := model.go:398 binOp
    refine WL.v (by first | exact r_lss rfl rfl (decide_eq_true (by omega)) | exact r_lss rfl rfl (decide_eq_false (by omega)) | exact r_lss rfl rfl rfl) rfl rfl rfl ?_
    refine WL.fin hK3345 (fun _ _ h => h) ?_
    refine WC.condT rfl rfl ?_
    refine WC.skipF hK3344 (fun _ _ h => h) ?_
    refine WC.seq fun K3346 hK3346 => ?_
    refine WC.block ?_
    refine WC.seq fun K3347 hK3347 => ?_
    refine WC.seq fun K3348 hK3348 => ?_
    -- region 6
    refine WC.region ?_
    -- R6.0 13 := model.go:399 move
    refine WL.v (by first | exact r_move (v := .int _ _) rfl | exact r_move rfl) rfl rfl rfl ?_
    -- R6.1 14 := model.go:399 move
    refine WL.v (by first | exact r_move (v := .int _ _) rfl | exact r_move rfl) rfl rfl rfl ?_
    -- R6.2 15 := model.go:399 call
    refine WL.call (r_call ty_call28 rfl) rfl rfl rfl (has_ok hdl hk' st) ?_
    rintro _ w ⟨he, st⟩
    rw [hdn] at he
    subst he
    -- R6.3 16 := model.go:399 move
    refine WL.v (by first | exact r_move (v := .bool _) rfl | exact r_move rfl) rfl rfl rfl ?_
    -- R6.4 17 := model.go:399 move
    refine WL.no rfl rfl ?_
    -- R6.5 18 := model.go:399 move
    refine WL.no rfl rfl ?_
    -- R6.6 19 := model.go:399 move
    refine WL.no rfl rfl ?_
    -- R6.7 20 := model.go:399 alloc
    refine WL.no rfl rfl ?_
    -- R6.8 21 := model.go:399 call
    refine WL.no rfl rfl ?_
    -- R6.9 22 := model.go:399 unOp
    refine WL.no rfl rfl ?_
    -- R6.10 23 := model.go:399 pick
    refine WL.v (by first | exact r_pickT (v := .bool _) rfl rfl | exact r_pickF (v := .bool _) rfl rfl) rfl rfl rfl ?_
    refine WL.fin hK3348 (fun _ _ h => h) ?_
    refine WC.condT rfl rfl ?_
    refine WC.exitF hK3346 (fun _ _ h => h) ?_
    -- region 5
    refine WC.region ?_
    -- R5.0 11 := model.go:398 move
    refine WL.v (by first | exact r_move (v := .int _ _) rfl | exact r_move rfl) rfl rfl rfl ?_
    -- R5.1 12 := model.go:398 binOp
    refine WL.v (by first | exact r_add rfl rfl (wi64 (by omega) (by omega)) | exact r_add rfl rfl rfl) rfl rfl rfl ?_
    -- R5.2 6 := model.go:398 assign
    refine WL.v (by first | exact r_assign (v := .int _ _) rfl | exact r_assign rfl) rfl rfl rfl ?_
    refine WL.next hK1 (fun _ _ h => h) (k + 1) ⟨hk', st⟩ (by omega) (by rw [e]; repeat (first | exact sub_nil _ | refine sub_cons rfl rfl ?_))
  have hnr : ¬ Red (wantF s.held s.queue) k := fun h => by rw [(hdb k hk').2 h] at hdn; cases hdn
  refine WC.seq fun K3349 hK3349 => ?_
  refine WC.seq fun K3350 hK3350 => ?_
  -- region 4
  refine WC.region ?_
  -- R4.0 9 := model.go:398 move
  refine WL.v (by first | exact r_move (v := .int _ _) rfl | exact r_move rfl) rfl rfl rfl ?_
  -- R4.1 10 := model.go:398 binOp
  refine WL.v (by first | exact r_lss rfl rfl (decide_eq_true (by omega)) | exact r_lss rfl rfl (decide_eq_false (by omega)) | exact r_lss rfl rfl rfl) rfl rfl rfl ?_
  refine WL.fin hK3350 (fun _ _ h => h) ?_
  refine WC.condT rfl rfl ?_
  refine WC.skipF hK3349 (fun _ _ h => h) ?_
  refine WC.seq fun K3351 hK3351 => ?_
  refine WC.block ?_
  refine WC.seq fun K3352 hK3352 => ?_
  refine WC.seq fun K3353 hK3353 => ?_
  -- region 6
  refine WC.region ?_
  -- R6.0 13 := model.go:399 move
  refine WL.v (by first | exact r_move (v := .int _ _) rfl | exact r_move rfl) rfl rfl rfl ?_
  -- R6.1 14 := model.go:399 move
  refine WL.v (by first | exact r_move (v := .int _ _) rfl | exact r_move rfl) rfl rfl rfl ?_
  -- R6.2 15 := model.go:399 call
  refine WL.call (r_call ty_call28 rfl) rfl rfl rfl (has_ok hdl hk' st) ?_
  rintro _ w ⟨he, st⟩
  rw [hdn] at he
  subst he
  -- R6.3 16 := model.go:399 move
  refine WL.v (by first | exact r_move (v := .bool _) rfl | exact r_move rfl) rfl rfl rfl ?_
  -- R6.4 17 := model.go:399 move
  refine WL.v (by first | exact r_move (v := .pointer _) rfl | exact r_move rfl) rfl rfl rfl ?_
  -- R6.5 18 := model.go:399 move
  refine WL.v (by first | exact r_move (v := .int _ _) rfl | exact r_move rfl) rfl rfl rfl ?_
  -- R6.6 19 := model.go:399 move
  refine WL.v (by first | exact r_move (v := .int _ _) rfl | exact r_move rfl) rfl rfl rfl ?_
  -- R6.7 20 := model.go:399 alloc
  refine WL.alloc (m := 1) st ty_zero38 rfl rfl rfl ?_
  intro b20 w st
  -- R6.8 21 := model.go:399 call
  refine WL.call (r_call ty_call125 rfl) rfl rfl rfl (leads_ok (bs := b20) hk' hI hrel List.mem_cons_self hp hX 16 k 0 _ (by decide) hk' (by decide) (Nat.zero_testBit _) st) ?_
  rintro _ w ⟨bb, S', rfl, hyes, hno, st⟩
  have st := st.drop
  have hpt : bb = true ↔ Pt (Ed s.held s.queue) 16 k k := ⟨hyes, fun h => by cases hbb : bb with | true => rfl | false => exact absurd rfl (pt_safe (g := k) (fun z hz hb => (hno hbb).2.cl z hz hb (Nat.zero_testBit _)) h hk' (hno hbb).1).2.1⟩
  -- R6.9 22 := model.go:399 unOp
  refine WL.v (by first | exact r_notT rfl | exact r_notF rfl | exact r_not rfl) rfl rfl rfl ?_
  -- R6.10 23 := model.go:399 pick
  refine WL.v (by first | exact r_pickT (v := .bool _) rfl rfl | exact r_pickF (v := .bool _) rfl rfl) rfl rfl rfl ?_
  refine WL.fin hK3353 (fun _ _ h => h) ?_
  rcases bb with _ | _
  · have hb : ms.testBit k = false := by
      cases hx : ms.testBit k with
      | false => rfl
      | true => have := hpt.2 ((hbit k hk').1 hx).1; cases this
    have e : vkF ms (fun i => (s.tk i).n) (k + 1) = vkF ms (fun i => (s.tk i).n) k := by rw [hsucc, hb]; rfl
    refine WC.condT rfl rfl ?_
    refine WC.exitF hK3351 (fun _ _ h => h) ?_
    -- region 5
    refine WC.region ?_
    -- R5.0 11 := model.go:398 move
    refine WL.v (by first | exact r_move (v := .int _ _) rfl | exact r_move rfl) rfl rfl rfl ?_
    -- R5.1 12 := model.go:398 binOp
    refine WL.v (by first | exact r_add rfl rfl (wi64 (by omega) (by omega)) | exact r_add rfl rfl rfl) rfl rfl rfl ?_
    -- R5.2 6 := model.go:398 assign
    refine WL.v (by first | exact r_assign (v := .int _ _) rfl | exact r_assign rfl) rfl rfl rfl ?_
    refine WL.next hK1 (fun _ _ h => h) (k + 1) ⟨hk', st⟩ (by omega) (by rw [e]; repeat (first | exact sub_nil _ | refine sub_cons rfl rfl ?_))
  have hb : ms.testBit k = true := (hbit k hk').2 ⟨hpt.1 rfl, hnr⟩
  rw [hb, if_pos rfl] at hsucc
  rcases vkF_or (m := ms) (work := (fun i => (s.tk i).n)) (k := k) (by omega) with hv | ⟨v, hv16, hv⟩
  · have e : vkF ms (fun i => (s.tk i).n) (k + 1) = (k : Int) := by rw [hsucc, hv]; exact if_pos (.inl rfl)
    refine WC.condF rfl rfl ?_
    refine WC.skipF hK3352 (fun _ _ h => h) ?_
    refine WC.seq fun K3354 hK3354 => ?_
    -- region 7 (draws)
    refine WC.quietS st ty_mixed (by kernel_rfl) fun Kq hKq => ?_
    -- R7.0 24 := model.go:402 move
    refine QL.v (fun w st => by first | exact r_move (v := .int _ _) rfl | exact r_move rfl) rfl rfl rfl ?_
    -- R7.1 25 := model.go:402 binOp
    refine QL.v (fun w st => by exact r_eql (t := true) rfl rfl (by rw [hv]; rfl)) rfl rfl rfl ?_
    -- R7.2 26 := model.go:402 move
    refine QL.v (fun w st => by first | exact r_move (v := .bool _) rfl | exact r_move rfl) rfl rfl rfl ?_
    -- R7.3 27 := model.go:402 move
    refine QL.no rfl rfl ?_
    -- R7.4 28 := model.go:402 move
    refine QL.no rfl rfl ?_
    -- R7.5 29 := model.go:402 nilCheck
    refine QL.no rfl rfl ?_
    -- R7.6 30 := model.go:402 fieldAddr
    refine QL.no rfl rfl ?_
    -- R7.7 31 := model.go:402 indexAddr
    refine QL.no rfl rfl ?_
    -- R7.8 32 := model.go:402 load
    refine QL.no rfl rfl ?_
    -- R7.9 33 := model.go:402 move
    refine QL.no rfl rfl ?_
    -- R7.10 34 := model.go:402 move
    refine QL.no rfl rfl ?_
    -- R7.11 35 := model.go:402 nilCheck
    refine QL.no rfl rfl ?_
    -- R7.12 36 := model.go:402 fieldAddr
    refine QL.no rfl rfl ?_
    -- R7.13 37 := model.go:402 indexAddr
    refine QL.no rfl rfl ?_
    -- R7.14 38 := model.go:402 load
    refine QL.no rfl rfl ?_
    -- R7.15 39 := model.go:402 binOp
    refine QL.no rfl rfl ?_
    -- R7.16 40 := model.go:402 pick
    refine QL.v (fun w st => by first | exact r_pickT (v := .bool _) rfl rfl | exact r_pickF (v := .bool _) rfl rfl) rfl rfl rfl ?_
    refine QL.wl hKq fun w st => ?_
    refine WL.fin hK3354 (fun _ _ h => h) ?_
    refine WC.condT rfl rfl ?_
    -- region 8
    refine WC.region ?_
    -- R8.0 41 := model.go:403 move
    refine WL.v (by first | exact r_move (v := .int _ _) rfl | exact r_move rfl) rfl rfl rfl ?_
    -- R8.1 5 := model.go:403 assign
    refine WL.v (by first | exact r_assign (v := .int _ _) rfl | exact r_assign rfl) rfl rfl rfl ?_
    refine WL.fin hK3351 (fun _ _ h => h) ?_
    -- region 5
    refine WC.region ?_
    -- R5.0 11 := model.go:398 move
    refine WL.v (by first | exact r_move (v := .int _ _) rfl | exact r_move rfl) rfl rfl rfl ?_
    -- R5.1 12 := model.go:398 binOp
    refine WL.v (by first | exact r_add rfl rfl (wi64 (by omega) (by omega)) | exact r_add rfl rfl rfl) rfl rfl rfl ?_
    -- R5.2 6 := model.go:398 assign
    refine WL.v (by first | exact r_assign (v := .int _ _) rfl | exact r_assign rfl) rfl rfl rfl ?_
    refine WL.next hK1 (fun _ _ h => h) (k + 1) ⟨hk', st⟩ (by omega) (by rw [e]; repeat (first | exact sub_nil _ | refine sub_cons rfl rfl ?_))
  have hn1 := hnb k
  have hn2 := hnb v
  by_cases hle : (s.tk k).n ≤ (s.tk v).n
  · have e : vkF ms (fun i => (s.tk i).n) (k + 1) = (k : Int) := by rw [hsucc, hv]; exact if_pos (.inr hle)
    refine WC.condF rfl rfl ?_
    refine WC.skipF hK3352 (fun _ _ h => h) ?_
    refine WC.seq fun K3355 hK3355 => ?_
    -- region 7 (draws)
    refine WC.quietS st ty_mixed (by kernel_rfl) fun Kq hKq => ?_
    -- R7.0 24 := model.go:402 move
    refine QL.v (fun w st => by exact r_move (v := .int .i64 (v : Nat)) (congrArg (Value.int .i64) hv)) rfl rfl rfl ?_
    -- R7.1 25 := model.go:402 binOp
    refine QL.v (fun w st => by exact r_eql rfl rfl (decide_eq_false (by omega))) rfl rfl rfl ?_
    -- R7.2 26 := model.go:402 move
    refine QL.v (fun w st => by first | exact r_move (v := .bool _) rfl | exact r_move rfl) rfl rfl rfl ?_
    -- R7.3 27 := model.go:402 move
    refine QL.v (fun w st => by first | exact r_move (v := .pointer _) rfl | exact r_move rfl) rfl rfl rfl ?_
    -- R7.4 28 := model.go:402 move
    refine QL.v (fun w st => by first | exact r_move (v := .int _ _) rfl | exact r_move rfl) rfl rfl rfl ?_
    -- R7.5 29 := model.go:402 nilCheck
    refine QL.v (fun w st => by exact r_nilCheck rfl) rfl rfl rfl ?_
    -- R7.6 30 := model.go:402 fieldAddr
    refine QL.v (fun w st => by exact r_field ty_fld98_12 rfl) rfl rfl rfl ?_
    -- R7.7 31 := model.go:402 indexAddr
    refine QL.v (fun w st => by exact r_indexA (j := k) ty_ar76 rfl rfl rfl hk') rfl rfl rfl ?_
    -- R7.8 32 := model.go:402 load
    refine QL.v (fun w st => by exact r_load1 (v := .int .i64 ((s.tk k).n : Nat)) ty_one3 rfl (c_mwr (m := mrOf s) List.mem_cons_self hk' (by omega) st)) rfl rfl rfl ?_
    -- R7.9 33 := model.go:402 move
    refine QL.v (fun w st => by first | exact r_move (v := .pointer _) rfl | exact r_move rfl) rfl rfl rfl ?_
    -- R7.10 34 := model.go:402 move
    refine QL.v (fun w st => by exact r_move (v := .int .i64 (v : Nat)) (congrArg (Value.int .i64) hv)) rfl rfl rfl ?_
    -- R7.11 35 := model.go:402 nilCheck
    refine QL.v (fun w st => by exact r_nilCheck rfl) rfl rfl rfl ?_
    -- R7.12 36 := model.go:402 fieldAddr
    refine QL.v (fun w st => by exact r_field ty_fld98_12 rfl) rfl rfl rfl ?_
    -- R7.13 37 := model.go:402 indexAddr
    refine QL.v (fun w st => by exact r_indexA (j := v) ty_ar76 rfl rfl rfl hv16) rfl rfl rfl ?_
    -- R7.14 38 := model.go:402 load
    refine QL.v (fun w st => by exact r_load1 (v := .int .i64 ((s.tk v).n : Nat)) ty_one3 rfl (c_mwr (m := mrOf s) List.mem_cons_self hv16 (by omega) st)) rfl rfl rfl ?_
    -- R7.15 39 := model.go:402 binOp
    refine QL.v (fun w st => by exact r_leq rfl rfl (decide_eq_true (by omega))) rfl rfl rfl ?_
    -- R7.16 40 := model.go:402 pick
    refine QL.v (fun w st => by first | exact r_pickT (v := .bool _) rfl rfl | exact r_pickF (v := .bool _) rfl rfl) rfl rfl rfl ?_
    refine QL.wl hKq fun w st => ?_
    refine WL.fin hK3355 (fun _ _ h => h) ?_
    refine WC.condT rfl rfl ?_
    -- region 8
    refine WC.region ?_
    -- R8.0 41 := model.go:403 move
    refine WL.v (by first | exact r_move (v := .int _ _) rfl | exact r_move rfl) rfl rfl rfl ?_
    -- R8.1 5 := model.go:403 assign
    refine WL.v (by first | exact r_assign (v := .int _ _) rfl | exact r_assign rfl) rfl rfl rfl ?_
    refine WL.fin hK3351 (fun _ _ h => h) ?_
    -- region 5
    refine WC.region ?_
    -- R5.0 11 := model.go:398 move
    refine WL.v (by first | exact r_move (v := .int _ _) rfl | exact r_move rfl) rfl rfl rfl ?_
    -- R5.1 12 := model.go:398 binOp
    refine WL.v (by first | exact r_add rfl rfl (wi64 (by omega) (by omega)) | exact r_add rfl rfl rfl) rfl rfl rfl ?_
    -- R5.2 6 := model.go:398 assign
    refine WL.v (by first | exact r_assign (v := .int _ _) rfl | exact r_assign rfl) rfl rfl rfl ?_
    refine WL.next hK1 (fun _ _ h => h) (k + 1) ⟨hk', st⟩ (by omega) (by rw [e]; repeat (first | exact sub_nil _ | refine sub_cons rfl rfl ?_))
  · have e : vkF ms (fun i => (s.tk i).n) (k + 1) = vkF ms (fun i => (s.tk i).n) k := by rw [hsucc, hv]; exact if_neg (fun q => by rcases q with q | q; omega; exact hle q)
    refine WC.condF rfl rfl ?_
    refine WC.skipF hK3352 (fun _ _ h => h) ?_
    refine WC.seq fun K3356 hK3356 => ?_
    -- region 7 (draws)
    refine WC.quietS st ty_mixed (by kernel_rfl) fun Kq hKq => ?_
    -- R7.0 24 := model.go:402 move
    refine QL.v (fun w st => by exact r_move (v := .int .i64 (v : Nat)) (congrArg (Value.int .i64) hv)) rfl rfl rfl ?_
    -- R7.1 25 := model.go:402 binOp
    refine QL.v (fun w st => by exact r_eql rfl rfl (decide_eq_false (by omega))) rfl rfl rfl ?_
    -- R7.2 26 := model.go:402 move
    refine QL.v (fun w st => by first | exact r_move (v := .bool _) rfl | exact r_move rfl) rfl rfl rfl ?_
    -- R7.3 27 := model.go:402 move
    refine QL.v (fun w st => by first | exact r_move (v := .pointer _) rfl | exact r_move rfl) rfl rfl rfl ?_
    -- R7.4 28 := model.go:402 move
    refine QL.v (fun w st => by first | exact r_move (v := .int _ _) rfl | exact r_move rfl) rfl rfl rfl ?_
    -- R7.5 29 := model.go:402 nilCheck
    refine QL.v (fun w st => by exact r_nilCheck rfl) rfl rfl rfl ?_
    -- R7.6 30 := model.go:402 fieldAddr
    refine QL.v (fun w st => by exact r_field ty_fld98_12 rfl) rfl rfl rfl ?_
    -- R7.7 31 := model.go:402 indexAddr
    refine QL.v (fun w st => by exact r_indexA (j := k) ty_ar76 rfl rfl rfl hk') rfl rfl rfl ?_
    -- R7.8 32 := model.go:402 load
    refine QL.v (fun w st => by exact r_load1 (v := .int .i64 ((s.tk k).n : Nat)) ty_one3 rfl (c_mwr (m := mrOf s) List.mem_cons_self hk' (by omega) st)) rfl rfl rfl ?_
    -- R7.9 33 := model.go:402 move
    refine QL.v (fun w st => by first | exact r_move (v := .pointer _) rfl | exact r_move rfl) rfl rfl rfl ?_
    -- R7.10 34 := model.go:402 move
    refine QL.v (fun w st => by exact r_move (v := .int .i64 (v : Nat)) (congrArg (Value.int .i64) hv)) rfl rfl rfl ?_
    -- R7.11 35 := model.go:402 nilCheck
    refine QL.v (fun w st => by exact r_nilCheck rfl) rfl rfl rfl ?_
    -- R7.12 36 := model.go:402 fieldAddr
    refine QL.v (fun w st => by exact r_field ty_fld98_12 rfl) rfl rfl rfl ?_
    -- R7.13 37 := model.go:402 indexAddr
    refine QL.v (fun w st => by exact r_indexA (j := v) ty_ar76 rfl rfl rfl hv16) rfl rfl rfl ?_
    -- R7.14 38 := model.go:402 load
    refine QL.v (fun w st => by exact r_load1 (v := .int .i64 ((s.tk v).n : Nat)) ty_one3 rfl (c_mwr (m := mrOf s) List.mem_cons_self hv16 (by omega) st)) rfl rfl rfl ?_
    -- R7.15 39 := model.go:402 binOp
    refine QL.v (fun w st => by exact r_leq rfl rfl (decide_eq_false (by omega))) rfl rfl rfl ?_
    -- R7.16 40 := model.go:402 pick
    refine QL.v (fun w st => by first | exact r_pickT (v := .bool _) rfl rfl | exact r_pickF (v := .bool _) rfl rfl) rfl rfl rfl ?_
    refine QL.wl hKq fun w st => ?_
    refine WL.fin hK3356 (fun _ _ h => h) ?_
    refine WC.condF rfl rfl ?_
    refine WC.skipF hK3351 (fun _ _ h => h) ?_
    -- region 5
    refine WC.region ?_
    -- R5.0 11 := model.go:398 move
    refine WL.v (by first | exact r_move (v := .int _ _) rfl | exact r_move rfl) rfl rfl rfl ?_
    -- R5.1 12 := model.go:398 binOp
    refine WL.v (by first | exact r_add rfl rfl (wi64 (by omega) (by omega)) | exact r_add rfl rfl rfl) rfl rfl rfl ?_
    -- R5.2 6 := model.go:398 assign
    refine WL.v (by first | exact r_assign (v := .int _ _) rfl | exact r_assign rfl) rfl rfl rfl ?_
    refine WL.next hK1 (fun _ _ h => h) (k + 1) ⟨hk', st⟩ (by omega) (by rw [e]; repeat (first | exact sub_nil _ | refine sub_cons rfl rfl ?_))
end Go.Proofs.Qxb6500834aGreatDoor

