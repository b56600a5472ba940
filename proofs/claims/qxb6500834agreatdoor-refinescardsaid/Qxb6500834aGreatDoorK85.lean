import Derived.Test.Qxb6500834aGreatDoorK84
set_option linter.unusedVariables false
set_option linter.unusedSimpArgs false
set_option maxRecDepth 20000
namespace Go.Proofs.Qxb6500834aGreatDoor
open Go.RowKit Go.E1 Go.Kern
theorem ty_call125 : callT Tryz.prog 125 = true := by kernel_rfl
theorem ty_call160 : callT Tryz.prog 160 = true := by kernel_rfl
variable {w0 : World} {l X : List HI} {w : World} {s s' s0 : KS} {t r N n : Nat} {qv qv' : Nat → Value}
variable {P : List PQ} {m : MR} {pv tv v : Value} {mb : Nat → Nat} {bm : Nat} {T : List (Nat × Nat × Nat)} {O : Nat → Nat → Option Nat} {held claim : Nat → Nat → Nat}

/-! Who waits for whom, by the model. -/
theorem rel_wait (hrel : RelP s P) (hI : INV s) {p : PQ} {i : Nat} (hip : P[i]? = some p) : waitP s.queue p.t = some (p.r, p.t, p.u) := by
  have hpm := List.mem_of_getElem? hip
  have h1 := hrel.l p hpm
  have hq : (p.t, p.u) ∈ s.queue p.r := by rw [hrel.q p.r h1.2]; exact quP_mem.2 ⟨p, hpm, rfl, rfl⟩
  obtain ⟨u, h2, h3⟩ := waitP_iff (once_of hI) h1.2 hq
  rw [hrel.q p.r h1.2] at h3
  obtain ⟨p', hp', _, e⟩ := quP_mem.1 h3
  have e1 : p'.t = p.t := (congrArg Prod.fst e).symm
  have e2 : p'.u = u := (congrArg Prod.snd e).symm
  have := uniq_t hrel.u hp' hpm e1
  rw [this] at e2
  rw [h2, e2]
theorem rel_nowait (hrel : RelP s P) (hfree : ∀ p, p ∈ P → p.t ≠ t) : waitP s.queue t = none := by
  cases h : waitP s.queue t with
  | none => rfl
  | some p =>
    obtain ⟨g1, g2, g3⟩ := waitP_mem h
    rw [hrel.q p.1 g1] at g2
    obtain ⟨q, hq, _, e⟩ := quP_mem.1 g2
    exact absurd ((congrArg Prod.fst e).symm.trans g3) (hfree q hq)
theorem busy_or (P : List PQ) (t : Nat) : (∀ p, p ∈ P → p.t ≠ t) ∨ ∃ (i : Nat) (p : PQ), P[i]? = some p ∧ p.t = t := by
  by_cases h : ∃ p, p ∈ P ∧ p.t = t
  · obtain ⟨p, hp, e⟩ := h
    obtain ⟨i, hi⟩ := List.getElem?_of_mem hp
    exact .inr ⟨i, p, hi, e⟩
  · exact .inl fun p hp e => h ⟨p, hp, e⟩
set_option maxHeartbeats 2000000 in
theorem waitsM_ok {XP : List HI} {x y : Nat} (hx : x < 16) (hy : y < 16) (hI : INV s) (hrel : RelP s P) (hm : moI bm (mrOf s) pv tv mb ∈ l) (hp : PL0 pv P XP) (hX : XP ⊆ l) (st : S0 w0 l w) :
    Calls Tryz.prog 160 #[.pointer (some ⟨bm, 0, none⟩), .int .i64 (x : Nat), .int .i64 (y : Nat)] w (Ret fun v w' => v = .bool (edB s.held s.queue x y) ∧ S0 w0 l w') := by
  obtain ⟨a, c, b, hpv, hc1, hc2, ha, hcell⟩ := hp.form
  rcases busy_or P x with hfree | ⟨i, p, hip, hpt⟩
  · have e : edB s.held s.queue x y = false := by
      cases hb : edB s.held s.queue x y with
      | false => rfl
      | true =>
        obtain ⟨q, hq, _⟩ := edB_iff.1 hb
        rw [rel_nowait hrel hfree] at hq; cases hq
    rw [e]
    refine enter [.pointer (some ⟨bm, 0, none⟩), .int .i64 (x : Nat), .int .i64 (y : Nat)] Tryz.func160 rfl Tryz.ntmps160 rfl ?_
    show WC _ _ _ 36 [] [(0, .pointer (some ⟨bm, 0, none⟩)), (1, .int .i64 (x : Nat)), (2, .int .i64 (y : Nat))] _
    refine WC.seq fun K3257 hK3257 => ?_
    -- region 0
    refine WC.region ?_
    -- R0.0 6 := model.go:357 assign
    refine WL.v (by first | exact r_assign (v := .bool _) rfl | exact r_assign rfl) rfl rfl rfl ?_
    refine WL.fin hK3257 (fun _ _ h => h) ?_
    refine WC.seq fun K3258 hK3258 => ?_
    -- region 1
    refine WC.region ?_
    -- R1.0 8 := model.go:358 move
    refine WL.v (by first | exact r_move (v := .pointer _) rfl | exact r_move rfl) rfl rfl rfl ?_
    -- R1.1 9 := model.go:358 move
    refine WL.v (by first | exact r_move (v := .int _ _) rfl | exact r_move rfl) rfl rfl rfl ?_
    -- R1.2 10 := model.go:358 call
    refine WL.call (r_call ty_call98 rfl) rfl rfl rfl (pl_none (t := x) hfree hm hp hX st) ?_
    rintro _ w ⟨rfl, st⟩
    -- R1.3 7 := model.go:358 assign
    refine WL.v (by first | exact r_assign (v := .int _ _) rfl | exact r_assign rfl) rfl rfl rfl ?_
    refine WL.fin hK3258 (fun _ _ h => h) ?_
    refine WC.seq fun K3259 hK3259 => ?_
    -- region 2 (draws)
    refine WC.quietS st ty_mixed (by kernel_rfl) fun Kq hKq => ?_
    -- R2.0 11 := model.go:359 move
    refine QL.v (fun w st => by first | exact r_move (v := .int _ _) rfl | exact r_move rfl) rfl rfl rfl ?_
    -- R2.1 12 := model.go:359 binOp
    refine QL.v (fun w st => by first | exact r_geq rfl rfl (decide_eq_true (by omega)) | exact r_geq rfl rfl (decide_eq_false (by omega)) | exact r_geq rfl rfl rfl) rfl rfl rfl ?_
    -- R2.2 13 := model.go:359 move
    refine QL.v (fun w st => by first | exact r_move (v := .bool _) rfl | exact r_move rfl) rfl rfl rfl ?_
    -- R2.3 14 := model.go:359 move
    refine QL.no rfl rfl ?_
    -- R2.4 15 := model.go:359 move
    refine QL.no rfl rfl ?_
    -- R2.5 16 := model.go:359 binOp
    refine QL.no rfl rfl ?_
    -- R2.6 17 := model.go:359 pick
    refine QL.v (fun w st => by first | exact r_pickT (v := .bool _) rfl rfl | exact r_pickF (v := .bool _) rfl rfl) rfl rfl rfl ?_
    -- R2.7 18 := model.go:359 move
    refine QL.v (fun w st => by first | exact r_move (v := .bool _) rfl | exact r_move rfl) rfl rfl rfl ?_
    -- R2.8 19 := model.go:359 move
    refine QL.no rfl rfl ?_
    -- R2.9 20 := model.go:359 move
    refine QL.no rfl rfl ?_
    -- R2.10 21 := model.go:359 move
    refine QL.no rfl rfl ?_
    -- R2.11 22 := model.go:359 nilCheck
    refine QL.no rfl rfl ?_
    -- R2.12 23 := model.go:359 fieldAddr
    refine QL.no rfl rfl ?_
    -- R2.13 24 := model.go:359 load
    refine QL.no rfl rfl ?_
    -- R2.14 25 := model.go:359 move
    refine QL.no rfl rfl ?_
    -- R2.15 26 := model.go:359 indexAddr
    refine QL.no rfl rfl ?_
    -- R2.16 27 := model.go:359 fieldAddr
    refine QL.no rfl rfl ?_
    -- R2.17 28 := model.go:359 load
    refine QL.no rfl rfl ?_
    -- R2.18 29 := model.go:359 nilCheck
    refine QL.no rfl rfl ?_
    -- R2.19 30 := model.go:359 fieldAddr
    refine QL.no rfl rfl ?_
    -- R2.20 31 := model.go:359 indexAddr
    refine QL.no rfl rfl ?_
    -- R2.21 32 := model.go:359 indexAddr
    refine QL.no rfl rfl ?_
    -- R2.22 33 := model.go:359 load
    refine QL.no rfl rfl ?_
    -- R2.23 34 := model.go:359 binOp
    refine QL.no rfl rfl ?_
    -- R2.24 35 := model.go:359 pick
    refine QL.v (fun w st => by first | exact r_pickT (v := .bool _) rfl rfl | exact r_pickF (v := .bool _) rfl rfl) rfl rfl rfl ?_
    -- R2.25 6 := model.go:359 assign
    refine QL.v (fun w st => by first | exact r_assign (v := .bool _) rfl | exact r_assign rfl) rfl rfl rfl ?_
    refine QL.wl hKq fun w st => ?_
    refine WL.fin hK3259 (fun _ _ h => h) ?_
    refine WC.ret1 Tryz.results160 (fun _ _ h => h) rfl ?_
    exact ⟨_, rfl, rfl, st⟩
  have hw := rel_wait hrel hI hip
  rw [hpt] at hw
  have hr20 := (hrel.l p (List.mem_of_getElem? hip)).2
  have hil : i < P.length := (List.getElem?_eq_some_iff.1 hip).1
  obtain rfl := ha (by omega)
  have hiff : edB s.held s.queue x y = true ↔ y ≠ x ∧ 0 < s.held y p.r := edB_iff.trans ⟨fun ⟨q, hq, _, h2, h3⟩ => by rw [hw] at hq; cases hq; exact ⟨h2, h3⟩, fun h => ⟨_, hw, hy, h.1, h.2⟩⟩
  by_cases hxy : x = y
  · have e : edB s.held s.queue x y = false := by
      cases hb : edB s.held s.queue x y with
      | false => rfl
      | true => exact absurd hxy.symm (hiff.1 hb).1
    rw [e]
    refine enter [.pointer (some ⟨bm, 0, none⟩), .int .i64 (x : Nat), .int .i64 (y : Nat)] Tryz.func160 rfl Tryz.ntmps160 rfl ?_
    show WC _ _ _ 36 [] [(0, .pointer (some ⟨bm, 0, none⟩)), (1, .int .i64 (x : Nat)), (2, .int .i64 (y : Nat))] _
    refine WC.seq fun K3260 hK3260 => ?_
    -- region 0
    refine WC.region ?_
    -- R0.0 6 := model.go:357 assign
    refine WL.v (by first | exact r_assign (v := .bool _) rfl | exact r_assign rfl) rfl rfl rfl ?_
    refine WL.fin hK3260 (fun _ _ h => h) ?_
    refine WC.seq fun K3261 hK3261 => ?_
    -- region 1
    refine WC.region ?_
    -- R1.0 8 := model.go:358 move
    refine WL.v (by first | exact r_move (v := .pointer _) rfl | exact r_move rfl) rfl rfl rfl ?_
    -- R1.1 9 := model.go:358 move
    refine WL.v (by first | exact r_move (v := .int _ _) rfl | exact r_move rfl) rfl rfl rfl ?_
    -- R1.2 10 := model.go:358 call
    refine WL.call (r_call ty_call98 rfl) rfl rfl rfl (pl_some hrel.u hip hpt hm hp hX st) ?_
    rintro _ w ⟨rfl, st⟩
    -- R1.3 7 := model.go:358 assign
    refine WL.v (by first | exact r_assign (v := .int _ _) rfl | exact r_assign rfl) rfl rfl rfl ?_
    refine WL.fin hK3261 (fun _ _ h => h) ?_
    refine WC.seq fun K3262 hK3262 => ?_
    -- region 2 (draws)
    refine WC.quietS st ty_mixed (by kernel_rfl) fun Kq hKq => ?_
    -- R2.0 11 := model.go:359 move
    refine QL.v (fun w st => by first | exact r_move (v := .int _ _) rfl | exact r_move rfl) rfl rfl rfl ?_
    -- R2.1 12 := model.go:359 binOp
    refine QL.v (fun w st => by exact r_geq rfl rfl (decide_eq_true (by omega))) rfl rfl rfl ?_
    -- R2.2 13 := model.go:359 move
    refine QL.v (fun w st => by first | exact r_move (v := .bool _) rfl | exact r_move rfl) rfl rfl rfl ?_
    -- R2.3 14 := model.go:359 move
    refine QL.v (fun w st => by first | exact r_move (v := .int _ _) rfl | exact r_move rfl) rfl rfl rfl ?_
    -- R2.4 15 := model.go:359 move
    refine QL.v (fun w st => by first | exact r_move (v := .int _ _) rfl | exact r_move rfl) rfl rfl rfl ?_
    -- R2.5 16 := model.go:359 binOp
    refine QL.v (fun w st => by exact r_neq rfl rfl (decide_eq_false (by omega))) rfl rfl rfl ?_
    -- R2.6 17 := model.go:359 pick
    refine QL.v (fun w st => by first | exact r_pickT (v := .bool _) rfl rfl | exact r_pickF (v := .bool _) rfl rfl) rfl rfl rfl ?_
    -- R2.7 18 := model.go:359 move
    refine QL.v (fun w st => by first | exact r_move (v := .bool _) rfl | exact r_move rfl) rfl rfl rfl ?_
    -- R2.8 19 := model.go:359 move
    refine QL.no rfl rfl ?_
    -- R2.9 20 := model.go:359 move
    refine QL.no rfl rfl ?_
    -- R2.10 21 := model.go:359 move
    refine QL.no rfl rfl ?_
    -- R2.11 22 := model.go:359 nilCheck
    refine QL.no rfl rfl ?_
    -- R2.12 23 := model.go:359 fieldAddr
    refine QL.no rfl rfl ?_
    -- R2.13 24 := model.go:359 load
    refine QL.no rfl rfl ?_
    -- R2.14 25 := model.go:359 move
    refine QL.no rfl rfl ?_
    -- R2.15 26 := model.go:359 indexAddr
    refine QL.no rfl rfl ?_
    -- R2.16 27 := model.go:359 fieldAddr
    refine QL.no rfl rfl ?_
    -- R2.17 28 := model.go:359 load
    refine QL.no rfl rfl ?_
    -- R2.18 29 := model.go:359 nilCheck
    refine QL.no rfl rfl ?_
    -- R2.19 30 := model.go:359 fieldAddr
    refine QL.no rfl rfl ?_
    -- R2.20 31 := model.go:359 indexAddr
    refine QL.no rfl rfl ?_
    -- R2.21 32 := model.go:359 indexAddr
    refine QL.no rfl rfl ?_
    -- R2.22 33 := model.go:359 load
    refine QL.no rfl rfl ?_
    -- R2.23 34 := model.go:359 binOp
    refine QL.no rfl rfl ?_
    -- R2.24 35 := model.go:359 pick
    refine QL.v (fun w st => by first | exact r_pickT (v := .bool _) rfl rfl | exact r_pickF (v := .bool _) rfl rfl) rfl rfl rfl ?_
    -- R2.25 6 := model.go:359 assign
    refine QL.v (fun w st => by first | exact r_assign (v := .bool _) rfl | exact r_assign rfl) rfl rfl rfl ?_
    refine QL.wl hKq fun w st => ?_
    refine WL.fin hK3262 (fun _ _ h => h) ?_
    refine WC.ret1 Tryz.results160 (fun _ _ h => h) rfl ?_
    exact ⟨_, rfl, rfl, st⟩
  have e : edB s.held s.queue x y = decide (0 < s.held y p.r) := Bool.eq_iff_iff.2 (hiff.trans ⟨fun h => decide_eq_true h.2, fun h => ⟨fun k => hxy k.symm, of_decide_eq_true h⟩⟩)
  refine enter [.pointer (some ⟨bm, 0, none⟩), .int .i64 (x : Nat), .int .i64 (y : Nat)] Tryz.func160 rfl Tryz.ntmps160 rfl ?_
  show WC _ _ _ 36 [] [(0, .pointer (some ⟨bm, 0, none⟩)), (1, .int .i64 (x : Nat)), (2, .int .i64 (y : Nat))] _
  refine WC.seq fun K3263 hK3263 => ?_
  -- region 0
  refine WC.region ?_
  -- R0.0 6 := model.go:357 assign
  refine WL.v (by first | exact r_assign (v := .bool _) rfl | exact r_assign rfl) rfl rfl rfl ?_
  refine WL.fin hK3263 (fun _ _ h => h) ?_
  refine WC.seq fun K3264 hK3264 => ?_
  -- region 1
  refine WC.region ?_
  -- R1.0 8 := model.go:358 move
  refine WL.v (by first | exact r_move (v := .pointer _) rfl | exact r_move rfl) rfl rfl rfl ?_
  -- R1.1 9 := model.go:358 move
  refine WL.v (by first | exact r_move (v := .int _ _) rfl | exact r_move rfl) rfl rfl rfl ?_
  -- R1.2 10 := model.go:358 call
  refine WL.call (r_call ty_call98 rfl) rfl rfl rfl (pl_some hrel.u hip hpt hm hp hX st) ?_
  rintro _ w ⟨rfl, st⟩
  -- R1.3 7 := model.go:358 assign
  refine WL.v (by first | exact r_assign (v := .int _ _) rfl | exact r_assign rfl) rfl rfl rfl ?_
  refine WL.fin hK3264 (fun _ _ h => h) ?_
  refine WC.seq fun K3265 hK3265 => ?_
  -- region 2 (draws)
  refine WC.quietS st ty_mixed (by kernel_rfl) fun Kq hKq => ?_
  -- R2.0 11 := model.go:359 move
  refine QL.v (fun w st => by first | exact r_move (v := .int _ _) rfl | exact r_move rfl) rfl rfl rfl ?_
  -- R2.1 12 := model.go:359 binOp
  refine QL.v (fun w st => by exact r_geq rfl rfl (decide_eq_true (by omega))) rfl rfl rfl ?_
  -- R2.2 13 := model.go:359 move
  refine QL.v (fun w st => by first | exact r_move (v := .bool _) rfl | exact r_move rfl) rfl rfl rfl ?_
  -- R2.3 14 := model.go:359 move
  refine QL.v (fun w st => by first | exact r_move (v := .int _ _) rfl | exact r_move rfl) rfl rfl rfl ?_
  -- R2.4 15 := model.go:359 move
  refine QL.v (fun w st => by first | exact r_move (v := .int _ _) rfl | exact r_move rfl) rfl rfl rfl ?_
  -- R2.5 16 := model.go:359 binOp
  refine QL.v (fun w st => by exact r_neq rfl rfl (decide_eq_true (by omega))) rfl rfl rfl ?_
  -- R2.6 17 := model.go:359 pick
  refine QL.v (fun w st => by first | exact r_pickT (v := .bool _) rfl rfl | exact r_pickF (v := .bool _) rfl rfl) rfl rfl rfl ?_
  -- R2.7 18 := model.go:359 move
  refine QL.v (fun w st => by first | exact r_move (v := .bool _) rfl | exact r_move rfl) rfl rfl rfl ?_
  -- R2.8 19 := model.go:359 move
  refine QL.v (fun w st => by first | exact r_move (v := .pointer _) rfl | exact r_move rfl) rfl rfl rfl ?_
  -- R2.9 20 := model.go:359 move
  refine QL.v (fun w st => by first | exact r_move (v := .int _ _) rfl | exact r_move rfl) rfl rfl rfl ?_
  -- R2.10 21 := model.go:359 move
  refine QL.v (fun w st => by first | exact r_move (v := .pointer _) rfl | exact r_move rfl) rfl rfl rfl ?_
  -- R2.11 22 := model.go:359 nilCheck
  refine QL.v (fun w st => by exact r_nilCheck rfl) rfl rfl rfl ?_
  -- R2.12 23 := model.go:359 fieldAddr
  refine QL.v (fun w st => by exact r_field ty_fld98_9 rfl) rfl rfl rfl ?_
  -- R2.13 24 := model.go:359 load
  refine QL.v (fun w st => by exact r_load1 (v := .slice (some ⟨b, 0, none⟩) P.length c) ty_one96 rfl (by rw [← hpv]; exact c_m hm (by decide) rfl st)) rfl rfl rfl ?_
  -- R2.14 25 := model.go:359 move
  refine QL.v (fun w st => by first | exact r_move (v := .int _ _) rfl | exact r_move rfl) rfl rfl rfl ?_
  -- R2.15 26 := model.go:359 indexAddr
  refine QL.v (fun w st => by exact r_indexS (j := i) ty_sl96 rfl rfl rfl (by omega)) rfl rfl rfl ?_
  -- R2.16 27 := model.go:359 fieldAddr
  refine QL.v (fun w st => by exact r_field ty_fld102_1 rfl) rfl rfl rfl ?_
  -- R2.17 28 := model.go:359 load
  refine QL.v (fun w st => by exact r_load1 (v := .int .i64 (p.r : Nat)) ty_one77 rfl (c_pq (j := 1) (a := none) hcell hX hip (by decide) st)) rfl rfl rfl ?_
  -- R2.18 29 := model.go:359 nilCheck
  refine QL.v (fun w st => by exact r_nilCheck rfl) rfl rfl rfl ?_
  -- R2.19 30 := model.go:359 fieldAddr
  refine QL.v (fun w st => by exact r_field ty_fld98_7 rfl) rfl rfl rfl ?_
  -- R2.20 31 := model.go:359 indexAddr
  refine QL.v (fun w st => by exact r_indexA (j := y) ty_ar45 rfl rfl rfl hy) rfl rfl rfl ?_
  -- R2.21 32 := model.go:359 indexAddr
  refine QL.v (fun w st => by exact r_indexA (j := p.r) ty_ar44 rfl rfl rfl hr20) rfl rfl rfl ?_
  -- R2.22 33 := model.go:359 load
  refine QL.v (fun w st => by exact r_load1 (v := .int .i64 (s.held y p.r : Nat)) ty_one3 rfl (c_mheld (m := mrOf s) hm hy hr20 (by omega) st)) rfl rfl rfl ?_
  -- R2.23 34 := model.go:359 binOp
  refine QL.v (fun w st => by exact r_gtr (t := edB s.held s.queue x y) rfl rfl (by rw [e, decide_eq_decide]; omega)) rfl rfl rfl ?_
  -- R2.24 35 := model.go:359 pick
  refine QL.v (fun w st => by first | exact r_pickT (v := .bool _) rfl rfl | exact r_pickF (v := .bool _) rfl rfl) rfl rfl rfl ?_
  -- R2.25 6 := model.go:359 assign
  refine QL.v (fun w st => by first | exact r_assign (v := .bool _) rfl | exact r_assign rfl) rfl rfl rfl ?_
  refine QL.wl hKq fun w st => ?_
  refine WL.fin hK3265 (fun _ _ h => h) ?_
  refine WC.ret1 Tryz.results160 (fun _ _ h => h) rfl ?_
  exact ⟨_, rfl, rfl, st⟩
/-! Depth first. -/
structure Dfs (held : Nat → Nat → Nat) (queue : Nat → List (Nat × Nat)) (g S S' : Nat) : Prop where
  lt : S' < 65536
  up : ∀ x, x < 16 → S.testBit x = true → S'.testBit x = true
  cl : ∀ x, x < 16 → S'.testBit x = true → S.testBit x = false → ∀ y, Ed held queue x y → y ≠ g ∧ S'.testBit y = true
theorem or_bit {S x y : Nat} : (S ||| 2 ^ x).testBit y = true ↔ S.testBit y = true ∨ y = x := by
  rw [Nat.testBit_or, Nat.testBit_two_pow, Bool.or_eq_true]
  constructor
  · rintro (h | h)
    · exact .inl h
    · exact .inr (by have : x = y := by simpa using h
                     exact this.symm)
  · rintro (h | h)
    · exact .inl h
    · exact .inr (by simp [h])
set_option maxHeartbeats 8000000 in
theorem leads_ok {XP : List HI} {bs g : Nat} (hg : g < 16) (hI : INV s) (hrel : RelP s P) (hm : moI bm (mrOf s) pv tv mb ∈ l) (hp : PL0 pv P XP) (hX : XP ⊆ l) : ∀ (n x S : Nat) (w : World), unN S.testBit ≤ n → x < 16 → S < 65536 → S.testBit x = false → S0 w0 ((bs, Row 38 1 (nth [.int .u16 (S : Nat)])) :: l) w →
    Calls Tryz.prog 125 #[.pointer (some ⟨bm, 0, none⟩), .int .i64 (x : Nat), .int .i64 (g : Nat), .pointer (some ⟨bs, 0, none⟩)] w (Ret fun v w' => ∃ (bb : Bool) (S' : Nat), v = .bool bb ∧ (bb = true → Pt (Ed s.held s.queue) 16 x g) ∧ (bb = false → S'.testBit x = true ∧ Dfs s.held s.queue g S S') ∧ S0 w0 ((bs, Row 38 1 (nth [.int .u16 (S' : Nat)])) :: l) w') := by
  intro n
  induction n with
  | zero =>
    intro x S w hn hx hS hSx
    have := unN_upd hx hSx
    omega
  | succ n ih =>
    intro x S w hn hx hS hSx st
    have hS1 : S ||| 2 ^ x < 65536 := orlt hS (pow16 hx)
    have hn1 : unN (S ||| 2 ^ x).testBit ≤ n := by rw [or_upd]; have := unN_upd hx hSx; omega
    refine enter [.pointer (some ⟨bm, 0, none⟩), .int .i64 (x : Nat), .int .i64 (g : Nat), .pointer (some ⟨bs, 0, none⟩)] Tryz.func125 rfl Tryz.ntmps125 rfl ?_
    show WC _ _ _ 44 [] [(0, .pointer (some ⟨bm, 0, none⟩)), (1, .int .i64 (x : Nat)), (2, .int .i64 (g : Nat)), (3, .pointer (some ⟨bs, 0, none⟩))] _
    refine WC.seq fun K3266 hK3266 => ?_
    -- region 0
    refine WC.region ?_
    -- R0.0 8 := model.go:364 assign
    refine WL.v (by first | exact r_assign (v := .bool _) rfl | exact r_assign rfl) rfl rfl rfl ?_
    refine WL.fin hK3266 (fun _ _ h => h) ?_
    refine WC.seq fun K3267 hK3267 => ?_
    -- region 1 (draws)
    refine WC.heldS2 [5, 6, 7] [0, 1, 2] [3] [4, 5, 6, 7] st (st) ty_mixed (by kernel_rfl) fun w st Kq Kq2 hKq hKq2 => ?_
    -- R1.0 10 := model.go:365 move
    refine HL.v (fun w st => by first | exact r_move (v := .pointer _) rfl | exact r_move rfl) rfl rfl rfl ?_
    -- R1.1 11 := model.go:365 nilCheck
    refine HL.v (fun w st => by exact r_nilCheck rfl) rfl rfl rfl ?_
    -- R1.2 12 := model.go:365 load
    refine HL.v (fun w st => by exact r_load1 (v := .int .u16 (S : Nat)) ty_one38 rfl (st.c0 (by decide))) rfl rfl rfl ?_
    refine HL.pure hKq ?_
    -- R1.3 13 := model.go:365 move
    refine HL.v (fun w _ => by first | exact r_move (v := .int _ _) rfl | exact r_move rfl) rfl rfl rfl ?_
    refine HL.fin hKq2 ?_
    refine TL.at ?_
    -- R1.4 14 := model.go:365 call
    refine WL.call (r_call ty_call30 rfl) rfl rfl rfl (bit_ok hx st) ?_
    rintro _ w ⟨rfl, st⟩
    refine TL.nxt (by first | exact st | exact st.drop | exact st.drop1 | exact st.drop2 | exact st.drop3 | exact st.drop4 | exact st.drop.drop | exact st.drop.drop1 | exact st.drop.drop2 | exact st.drop.drop3 | exact st.drop.drop4 | exact st.drop.drop.drop | exact st.drop.drop.drop.drop | exact st_dropL st | exact st_dropL st.drop | exact st_none st) ?_
    refine TL.at ?_
    -- R1.5 15 := model.go:365 binOp
    refine WL.v (by exact r_or (r := ((S ||| 2 ^ x : Nat) : Int)) rfl rfl (or16 hS (pow16 hx))) rfl rfl rfl ?_
    refine TL.nxt' rfl ?_
    refine TL.at ?_
    -- R1.6 16 := model.go:365 nilCheck
    refine WL.v (by exact r_nilCheck rfl) rfl rfl rfl ?_
    refine TL.nxt' rfl ?_
    refine TL.at ?_
    -- R1.7 None := model.go:365 store
    refine WL.store (v := .int .u16 ((S ||| 2 ^ x : Nat) : Int)) st ty_one38 rfl rfl rfl (by decide) rfl rfl ?_
    intro w st
    have st : S0 w0 ((bs, Row 38 1 (nth [.int .u16 (S ||| 2 ^ x : Nat)])) :: l) w := stE (fun j hj => by rw [show j = 0 by omega]; rfl) st
    refine TL.nxt' rfl ?_
    refine TL.wl ?_
    refine WL.fin hK3267 (fun _ _ h => h) ?_
    refine WC.seq fun K3268 hK3268 => ?_
    refine WC.seq fun K3269 hK3269 => ?_
    -- region 2
    refine WC.region ?_
    -- R2.0 9 := model.go:366 assign
    refine WL.v (by first | exact r_assign (v := .int _ _) rfl | exact r_assign rfl) rfl rfl rfl ?_
    refine WL.fin hK3269 (fun _ _ h => h) ?_
    refine WC.block ?_
    refine WC.loop (ι := Nat × Nat) (fun y => [(0, .pointer (some ⟨bm, 0, none⟩)), (1, .int .i64 (x : Nat)), (2, .int .i64 (g : Nat)), (3, .pointer (some ⟨bs, 0, none⟩)), (9, .int .i64 (y.1 : Nat))])
      (fun y w' => y.1 ≤ 16 ∧ Dfs s.held s.queue g (S ||| 2 ^ x) y.2 ∧ (∀ z, z < y.1 → Ed s.held s.queue x z → z ≠ g ∧ y.2.testBit z = true) ∧ S0 w0 ((bs, Row 38 1 (nth [.int .u16 (y.2 : Nat)])) :: l) w') (fun y => 16 - y.1) (0, S ||| 2 ^ x) ⟨Nat.zero_le _, ⟨hS1, fun _ _ h => h, fun z _ h1 h2 => by rw [h1] at h2; cases h2⟩, fun z hz => absurd hz (Nat.not_lt_zero _), st⟩ ?_ ?_
    · skip
      repeat (first | exact sub_nil _ | refine sub_cons rfl rfl ?_)
    clear st
    rintro ⟨k, S2⟩ w ⟨hk, hdf, hpre, st⟩ K1 hK1
    dsimp only at hk hdf hpre st ⊢
    have hxS2 : S2.testBit x = true := hdf.up x hx (or_bit.2 (.inr rfl))
    by_cases hk16 : k = 16
    · subst hk16
      refine WC.seq fun K3270 hK3270 => ?_
      refine WC.seq fun K3271 hK3271 => ?_
      -- region 3
      refine WC.region ?_
      -- R3.0 17 := model.go:366 move
      refine WL.v (by first | exact r_move (v := .int _ _) rfl | exact r_move rfl) rfl rfl rfl ?_
      -- R3.1 18 := model.go:366 binOp
      refine WL.v (by first | exact r_lss rfl rfl (decide_eq_true (by omega)) | exact r_lss rfl rfl (decide_eq_false (by omega)) | exact r_lss rfl rfl rfl) rfl rfl rfl ?_
      refine WL.fin hK3271 (fun _ _ h => h) ?_
      refine WC.condF rfl rfl ?_
      refine WC.exitF hK3268 (fun _ _ h => h) ?_
      refine WC.seq fun K3272 hK3272 => ?_
      -- region 8
      refine WC.region ?_
      -- R8.0 8 := model.go:374 assign
      refine WL.v (by first | exact r_assign (v := .bool _) rfl | exact r_assign rfl) rfl rfl rfl ?_
      refine WL.fin hK3272 (fun _ _ h => h) ?_
      refine WC.ret1 Tryz.results125 (fun _ _ h => h) rfl ?_
      refine ⟨_, rfl, false, S2, rfl, (fun k => by cases k), fun _ => ⟨hxS2, hdf.lt, fun z hz h => hdf.up z hz (or_bit.2 (.inl h)), fun z hz h1 h2 y hE => ?_⟩, st⟩
      have hy16 : y < 16 := by obtain ⟨_, _, h, _⟩ := hE; exact h
      by_cases e : z = x
      · rw [e] at hE; exact hpre y hy16 hE
      · refine hdf.cl z hz h1 ?_ y hE
        cases hb : (S ||| 2 ^ x).testBit z with
        | false => rfl
        | true =>
          rcases or_bit.1 hb with k | k
          · rw [k] at h2; cases h2
          · exact absurd k e
    have hk' : k < 16 := by omega
    have hX' : XP ⊆ (bs, Row 38 1 (nth [.int .u16 (S2 : Nat)])) :: l := fun z hz => List.mem_cons_of_mem _ (hX hz)
    rcases hE : edB s.held s.queue x k with _ | _
    · have hnE : ¬ Ed s.held s.queue x k := fun h => by rw [edB_iff.2 h] at hE; cases hE
      refine WC.seq fun K3273 hK3273 => ?_
      refine WC.seq fun K3274 hK3274 => ?_
      -- region 3
      refine WC.region ?_
      -- R3.0 17 := model.go:366 move
      refine WL.v (by first | exact r_move (v := .int _ _) rfl | exact r_move rfl) rfl rfl rfl ?_
      -- R3.1 18 := model.go:366 binOp
      refine WL.v (by first | exact r_lss rfl rfl (decide_eq_true (by omega)) | exact r_lss rfl rfl (decide_eq_false (by omega)) | exact r_lss rfl rfl rfl) rfl rfl rfl ?_
      refine WL.fin hK3274 (fun _ _ h => h) ?_
      refine WC.condT rfl rfl ?_
      refine WC.skipF hK3273 (fun _ _ h => h) ?_
      refine WC.seq fun K3275 hK3275 => ?_
      refine WC.block ?_
      refine WC.seq fun K3276 hK3276 => ?_
      refine WC.seq fun K3277 hK3277 => ?_
      -- region 5
      refine WC.region ?_
      -- R5.0 21 := model.go:367 move
      refine WL.v (by first | exact r_move (v := .pointer _) rfl | exact r_move rfl) rfl rfl rfl ?_
      -- R5.1 22 := model.go:367 move
      refine WL.v (by first | exact r_move (v := .int _ _) rfl | exact r_move rfl) rfl rfl rfl ?_
      -- R5.2 23 := model.go:367 move
      refine WL.v (by first | exact r_move (v := .int _ _) rfl | exact r_move rfl) rfl rfl rfl ?_
      -- R5.3 24 := model.go:367 call
      refine WL.call (r_call ty_call160 rfl) rfl rfl rfl (waitsM_ok hx hk' hI hrel (List.mem_cons_of_mem _ hm) hp hX' st) ?_
      rintro _ w ⟨he, st⟩
      rw [hE] at he
      subst he
      -- R5.4 25 := model.go:367 unOp
      refine WL.v (by first | exact r_notT rfl | exact r_notF rfl | exact r_not rfl) rfl rfl rfl ?_
      refine WL.fin hK3277 (fun _ _ h => h) ?_
      refine WC.condT rfl rfl ?_
      refine WC.exitF hK3275 (fun _ _ h => h) ?_
      -- region 4
      refine WC.region ?_
      -- R4.0 19 := model.go:366 move
      refine WL.v (by first | exact r_move (v := .int _ _) rfl | exact r_move rfl) rfl rfl rfl ?_
      -- R4.1 20 := model.go:366 binOp
      refine WL.v (by first | exact r_add rfl rfl (wi64 (by omega) (by omega)) | exact r_add rfl rfl rfl) rfl rfl rfl ?_
      -- R4.2 9 := model.go:366 assign
      refine WL.v (by first | exact r_assign (v := .int _ _) rfl | exact r_assign rfl) rfl rfl rfl ?_
      refine WL.next hK1 (fun _ _ h => h) (k + 1, S2) ⟨hk', hdf, fun z hz h => ?_, st⟩ (by show 16 - (k + 1) < 16 - k; omega) (by repeat (first | exact sub_nil _ | refine sub_cons rfl rfl ?_))
      by_cases e : z = k
      · rw [e] at h; exact absurd h hnE
      · exact hpre z (by have hz : z < k + 1 := hz; omega) h
    have hEd := edB_iff.1 hE
    by_cases hkg : k = g
    · skip
      refine WC.seq fun K3278 hK3278 => ?_
      refine WC.seq fun K3279 hK3279 => ?_
      -- region 3
      refine WC.region ?_
      -- R3.0 17 := model.go:366 move
      refine WL.v (by first | exact r_move (v := .int _ _) rfl | exact r_move rfl) rfl rfl rfl ?_
      -- R3.1 18 := model.go:366 binOp
      refine WL.v (by first | exact r_lss rfl rfl (decide_eq_true (by omega)) | exact r_lss rfl rfl (decide_eq_false (by omega)) | exact r_lss rfl rfl rfl) rfl rfl rfl ?_
      refine WL.fin hK3279 (fun _ _ h => h) ?_
      refine WC.condT rfl rfl ?_
      refine WC.skipF hK3278 (fun _ _ h => h) ?_
      refine WC.seq fun K3280 hK3280 => ?_
      refine WC.block ?_
      refine WC.seq fun K3281 hK3281 => ?_
      refine WC.seq fun K3282 hK3282 => ?_
      -- region 5
      refine WC.region ?_
      -- R5.0 21 := model.go:367 move
      refine WL.v (by first | exact r_move (v := .pointer _) rfl | exact r_move rfl) rfl rfl rfl ?_
      -- R5.1 22 := model.go:367 move
      refine WL.v (by first | exact r_move (v := .int _ _) rfl | exact r_move rfl) rfl rfl rfl ?_
      -- R5.2 23 := model.go:367 move
      refine WL.v (by first | exact r_move (v := .int _ _) rfl | exact r_move rfl) rfl rfl rfl ?_
      -- R5.3 24 := model.go:367 call
      refine WL.call (r_call ty_call160 rfl) rfl rfl rfl (waitsM_ok hx hk' hI hrel (List.mem_cons_of_mem _ hm) hp hX' st) ?_
      rintro _ w ⟨he, st⟩
      rw [hE] at he
      subst he
      -- R5.4 25 := model.go:367 unOp
      refine WL.v (by first | exact r_notT rfl | exact r_notF rfl | exact r_not rfl) rfl rfl rfl ?_
      refine WL.fin hK3282 (fun _ _ h => h) ?_
      refine WC.condF rfl rfl ?_
      refine WC.skipF hK3281 (fun _ _ h => h) ?_
      refine WC.seq fun K3283 hK3283 => ?_
      -- region 6
      refine WC.region ?_
      -- R6.0 26 := model.go:370 move
      refine WL.v (by first | exact r_move (v := .int _ _) rfl | exact r_move rfl) rfl rfl rfl ?_
      -- R6.1 27 := model.go:370 move
      refine WL.v (by first | exact r_move (v := .int _ _) rfl | exact r_move rfl) rfl rfl rfl ?_
      -- R6.2 28 := model.go:370 binOp
      refine WL.v (by exact r_eql rfl rfl (decide_eq_true (by omega))) rfl rfl rfl ?_
      -- R6.3 29 := model.go:370 move
      refine WL.v (by first | exact r_move (v := .bool _) rfl | exact r_move rfl) rfl rfl rfl ?_
      -- R6.4 30 := model.go:370 move
      refine WL.no rfl rfl ?_
      -- R6.5 31 := model.go:370 nilCheck
      refine WL.no rfl rfl ?_
      -- R6.6 32 := model.go:370 load
      refine WL.no rfl rfl ?_
      -- R6.7 33 := model.go:370 move
      refine WL.no rfl rfl ?_
      -- R6.8 34 := model.go:370 call
      refine WL.no rfl rfl ?_
      -- R6.9 35 := model.go:370 unOp
      refine WL.no rfl rfl ?_
      -- R6.10 36 := model.go:370 move
      refine WL.no rfl rfl ?_
      -- R6.11 37 := model.go:370 move
      refine WL.no rfl rfl ?_
      -- R6.12 38 := model.go:370 move
      refine WL.no rfl rfl ?_
      -- R6.13 39 := model.go:370 move
      refine WL.no rfl rfl ?_
      -- R6.14 40 := model.go:370 move
      refine WL.no rfl rfl ?_
      -- R6.15 41 := model.go:370 call
      refine WL.no rfl rfl ?_
      -- R6.16 42 := model.go:370 pick
      refine WL.no rfl rfl ?_
      -- R6.17 43 := model.go:370 pick
      refine WL.v (by first | exact r_pickT (v := .bool _) rfl rfl | exact r_pickF (v := .bool _) rfl rfl) rfl rfl rfl ?_
      refine WL.fin hK3283 (fun _ _ h => h) ?_
      refine WC.condT rfl rfl ?_
      refine WC.seq fun K3284 hK3284 => ?_
      -- region 7
      refine WC.region ?_
      -- R7.0 8 := model.go:371 assign
      refine WL.v (by first | exact r_assign (v := .bool _) rfl | exact r_assign rfl) rfl rfl rfl ?_
      refine WL.fin hK3284 (fun _ _ h => h) ?_
      refine WC.ret1 Tryz.results125 (fun _ _ h => h) rfl ?_
      exact ⟨_, rfl, true, S2, rfl, fun _ => .edge (by rw [← hkg]; exact hEd), (fun k => by cases k), st⟩
    rcases hbit : S2.testBit k with _ | _
    rotate_left
    · skip
      refine WC.seq fun K3285 hK3285 => ?_
      refine WC.seq fun K3286 hK3286 => ?_
      -- region 3
      refine WC.region ?_
      -- R3.0 17 := model.go:366 move
      refine WL.v (by first | exact r_move (v := .int _ _) rfl | exact r_move rfl) rfl rfl rfl ?_
      -- R3.1 18 := model.go:366 binOp
      refine WL.v (by first | exact r_lss rfl rfl (decide_eq_true (by omega)) | exact r_lss rfl rfl (decide_eq_false (by omega)) | exact r_lss rfl rfl rfl) rfl rfl rfl ?_
      refine WL.fin hK3286 (fun _ _ h => h) ?_
      refine WC.condT rfl rfl ?_
      refine WC.skipF hK3285 (fun _ _ h => h) ?_
      refine WC.seq fun K3287 hK3287 => ?_
      refine WC.block ?_
      refine WC.seq fun K3288 hK3288 => ?_
      refine WC.seq fun K3289 hK3289 => ?_
      -- region 5
      refine WC.region ?_
      -- R5.0 21 := model.go:367 move
      refine WL.v (by first | exact r_move (v := .pointer _) rfl | exact r_move rfl) rfl rfl rfl ?_
      -- R5.1 22 := model.go:367 move
      refine WL.v (by first | exact r_move (v := .int _ _) rfl | exact r_move rfl) rfl rfl rfl ?_
      -- R5.2 23 := model.go:367 move
      refine WL.v (by first | exact r_move (v := .int _ _) rfl | exact r_move rfl) rfl rfl rfl ?_
      -- R5.3 24 := model.go:367 call
      refine WL.call (r_call ty_call160 rfl) rfl rfl rfl (waitsM_ok hx hk' hI hrel (List.mem_cons_of_mem _ hm) hp hX' st) ?_
      rintro _ w ⟨he, st⟩
      rw [hE] at he
      subst he
      -- R5.4 25 := model.go:367 unOp
      refine WL.v (by first | exact r_notT rfl | exact r_notF rfl | exact r_not rfl) rfl rfl rfl ?_
      refine WL.fin hK3289 (fun _ _ h => h) ?_
      refine WC.condF rfl rfl ?_
      refine WC.skipF hK3288 (fun _ _ h => h) ?_
      refine WC.seq fun K3290 hK3290 => ?_
      -- region 6
      refine WC.region ?_
      -- R6.0 26 := model.go:370 move
      refine WL.v (by first | exact r_move (v := .int _ _) rfl | exact r_move rfl) rfl rfl rfl ?_
      -- R6.1 27 := model.go:370 move
      refine WL.v (by first | exact r_move (v := .int _ _) rfl | exact r_move rfl) rfl rfl rfl ?_
      -- R6.2 28 := model.go:370 binOp
      refine WL.v (by exact r_eql rfl rfl (decide_eq_false (by omega))) rfl rfl rfl ?_
      -- R6.3 29 := model.go:370 move
      refine WL.v (by first | exact r_move (v := .bool _) rfl | exact r_move rfl) rfl rfl rfl ?_
      -- R6.4 30 := model.go:370 move
      refine WL.v (by first | exact r_move (v := .pointer _) rfl | exact r_move rfl) rfl rfl rfl ?_
      -- R6.5 31 := model.go:370 nilCheck
      refine WL.v (by exact r_nilCheck rfl) rfl rfl rfl ?_
      -- R6.6 32 := model.go:370 load
      refine WL.v (by exact r_load1 (v := .int .u16 (S2 : Nat)) ty_one38 rfl (st.c0 (by decide))) rfl rfl rfl ?_
      -- R6.7 33 := model.go:370 move
      refine WL.v (by first | exact r_move (v := .int _ _) rfl | exact r_move rfl) rfl rfl rfl ?_
      -- R6.8 34 := model.go:370 call
      refine WL.call (r_call ty_call28 rfl) rfl rfl rfl (has_ok hdf.lt hk' st) ?_
      rintro _ w ⟨he, st⟩
      rw [hbit] at he
      subst he
      -- R6.9 35 := model.go:370 unOp
      refine WL.v (by first | exact r_notT rfl | exact r_notF rfl | exact r_not rfl) rfl rfl rfl ?_
      -- R6.10 36 := model.go:370 move
      refine WL.v (by first | exact r_move (v := .bool _) rfl | exact r_move rfl) rfl rfl rfl ?_
      -- R6.11 37 := model.go:370 move
      refine WL.no rfl rfl ?_
      -- R6.12 38 := model.go:370 move
      refine WL.no rfl rfl ?_
      -- R6.13 39 := model.go:370 move
      refine WL.no rfl rfl ?_
      -- R6.14 40 := model.go:370 move
      refine WL.no rfl rfl ?_
      -- R6.15 41 := model.go:370 call
      refine WL.no rfl rfl ?_
      -- R6.16 42 := model.go:370 pick
      refine WL.v (by first | exact r_pickT (v := .bool _) rfl rfl | exact r_pickF (v := .bool _) rfl rfl) rfl rfl rfl ?_
      -- R6.17 43 := model.go:370 pick
      refine WL.v (by first | exact r_pickT (v := .bool _) rfl rfl | exact r_pickF (v := .bool _) rfl rfl) rfl rfl rfl ?_
      refine WL.fin hK3290 (fun _ _ h => h) ?_
      refine WC.condF rfl rfl ?_
      refine WC.skipF hK3287 (fun _ _ h => h) ?_
      -- region 4
      refine WC.region ?_
      -- R4.0 19 := model.go:366 move
      refine WL.v (by first | exact r_move (v := .int _ _) rfl | exact r_move rfl) rfl rfl rfl ?_
      -- R4.1 20 := model.go:366 binOp
      refine WL.v (by first | exact r_add rfl rfl (wi64 (by omega) (by omega)) | exact r_add rfl rfl rfl) rfl rfl rfl ?_
      -- R4.2 9 := model.go:366 assign
      refine WL.v (by first | exact r_assign (v := .int _ _) rfl | exact r_assign rfl) rfl rfl rfl ?_
      refine WL.next hK1 (fun _ _ h => h) (k + 1, S2) ⟨hk', hdf, fun z hz h => ?_, st⟩ (by show 16 - (k + 1) < 16 - k; omega) (by repeat (first | exact sub_nil _ | refine sub_cons rfl rfl ?_))
      by_cases e : z = k
      · rw [e]; exact ⟨hkg, hbit⟩
      · exact hpre z (by have hz : z < k + 1 := hz; omega) h
    have hmono : unN S2.testBit ≤ n := by
      refine Nat.le_trans (sumP_le_lt 16 fun z hz => ?_) hn1
      cases h1 : (S ||| 2 ^ x).testBit z with
      | false => cases S2.testBit z <;> simp
      | true => rw [hdf.up z hz h1]; simp
    refine WC.seq fun K3291 hK3291 => ?_
    refine WC.seq fun K3292 hK3292 => ?_
    -- region 3
    refine WC.region ?_
    -- R3.0 17 := model.go:366 move
    refine WL.v (by first | exact r_move (v := .int _ _) rfl | exact r_move rfl) rfl rfl rfl ?_
    -- R3.1 18 := model.go:366 binOp
    refine WL.v (by first | exact r_lss rfl rfl (decide_eq_true (by omega)) | exact r_lss rfl rfl (decide_eq_false (by omega)) | exact r_lss rfl rfl rfl) rfl rfl rfl ?_
    refine WL.fin hK3292 (fun _ _ h => h) ?_
    refine WC.condT rfl rfl ?_
    refine WC.skipF hK3291 (fun _ _ h => h) ?_
    refine WC.seq fun K3293 hK3293 => ?_
    refine WC.block ?_
    refine WC.seq fun K3294 hK3294 => ?_
    refine WC.seq fun K3295 hK3295 => ?_
    -- region 5
    refine WC.region ?_
    -- R5.0 21 := model.go:367 move
    refine WL.v (by first | exact r_move (v := .pointer _) rfl | exact r_move rfl) rfl rfl rfl ?_
    -- R5.1 22 := model.go:367 move
    refine WL.v (by first | exact r_move (v := .int _ _) rfl | exact r_move rfl) rfl rfl rfl ?_
    -- R5.2 23 := model.go:367 move
    refine WL.v (by first | exact r_move (v := .int _ _) rfl | exact r_move rfl) rfl rfl rfl ?_
    -- R5.3 24 := model.go:367 call
    refine WL.call (r_call ty_call160 rfl) rfl rfl rfl (waitsM_ok hx hk' hI hrel (List.mem_cons_of_mem _ hm) hp hX' st) ?_
    rintro _ w ⟨he, st⟩
    rw [hE] at he
    subst he
    -- R5.4 25 := model.go:367 unOp
    refine WL.v (by first | exact r_notT rfl | exact r_notF rfl | exact r_not rfl) rfl rfl rfl ?_
    refine WL.fin hK3295 (fun _ _ h => h) ?_
    refine WC.condF rfl rfl ?_
    refine WC.skipF hK3294 (fun _ _ h => h) ?_
    refine WC.seq fun K3296 hK3296 => ?_
    -- region 6
    refine WC.region ?_
    -- R6.0 26 := model.go:370 move
    refine WL.v (by first | exact r_move (v := .int _ _) rfl | exact r_move rfl) rfl rfl rfl ?_
    -- R6.1 27 := model.go:370 move
    refine WL.v (by first | exact r_move (v := .int _ _) rfl | exact r_move rfl) rfl rfl rfl ?_
    -- R6.2 28 := model.go:370 binOp
    refine WL.v (by exact r_eql rfl rfl (decide_eq_false (by omega))) rfl rfl rfl ?_
    -- R6.3 29 := model.go:370 move
    refine WL.v (by first | exact r_move (v := .bool _) rfl | exact r_move rfl) rfl rfl rfl ?_
    -- R6.4 30 := model.go:370 move
    refine WL.v (by first | exact r_move (v := .pointer _) rfl | exact r_move rfl) rfl rfl rfl ?_
    -- R6.5 31 := model.go:370 nilCheck
    refine WL.v (by exact r_nilCheck rfl) rfl rfl rfl ?_
    -- R6.6 32 := model.go:370 load
    refine WL.v (by exact r_load1 (v := .int .u16 (S2 : Nat)) ty_one38 rfl (st.c0 (by decide))) rfl rfl rfl ?_
    -- R6.7 33 := model.go:370 move
    refine WL.v (by first | exact r_move (v := .int _ _) rfl | exact r_move rfl) rfl rfl rfl ?_
    -- R6.8 34 := model.go:370 call
    refine WL.call (r_call ty_call28 rfl) rfl rfl rfl (has_ok hdf.lt hk' st) ?_
    rintro _ w ⟨he, st⟩
    rw [hbit] at he
    subst he
    -- R6.9 35 := model.go:370 unOp
    refine WL.v (by first | exact r_notT rfl | exact r_notF rfl | exact r_not rfl) rfl rfl rfl ?_
    -- R6.10 36 := model.go:370 move
    refine WL.v (by first | exact r_move (v := .bool _) rfl | exact r_move rfl) rfl rfl rfl ?_
    -- R6.11 37 := model.go:370 move
    refine WL.v (by first | exact r_move (v := .pointer _) rfl | exact r_move rfl) rfl rfl rfl ?_
    -- R6.12 38 := model.go:370 move
    refine WL.v (by first | exact r_move (v := .int _ _) rfl | exact r_move rfl) rfl rfl rfl ?_
    -- R6.13 39 := model.go:370 move
    refine WL.v (by first | exact r_move (v := .int _ _) rfl | exact r_move rfl) rfl rfl rfl ?_
    -- R6.14 40 := model.go:370 move
    refine WL.v (by first | exact r_move (v := .pointer _) rfl | exact r_move rfl) rfl rfl rfl ?_
    -- R6.15 41 := model.go:370 call
    refine WL.call (r_call ty_call125 rfl) rfl rfl rfl (ih k S2 _ hmono hk' hdf.lt hbit st) ?_
    rintro _ w ⟨bb, S3, rfl, hyes, hno, st⟩
    -- R6.16 42 := model.go:370 pick
    refine WL.v (by first | exact r_pickT (v := .bool _) rfl rfl | exact r_pickF (v := .bool _) rfl rfl) rfl rfl rfl ?_
    -- R6.17 43 := model.go:370 pick
    refine WL.v (by first | exact r_pickT (v := .bool _) rfl rfl | exact r_pickF (v := .bool _) rfl rfl) rfl rfl rfl ?_
    refine WL.fin hK3296 (fun _ _ h => h) ?_
    rcases bb with _ | _
    · obtain ⟨hb3, hd3⟩ := hno rfl
      refine WC.condF rfl rfl ?_
      refine WC.skipF hK3293 (fun _ _ h => h) ?_
      -- region 4
      refine WC.region ?_
      -- R4.0 19 := model.go:366 move
      refine WL.v (by first | exact r_move (v := .int _ _) rfl | exact r_move rfl) rfl rfl rfl ?_
      -- R4.1 20 := model.go:366 binOp
      refine WL.v (by first | exact r_add rfl rfl (wi64 (by omega) (by omega)) | exact r_add rfl rfl rfl) rfl rfl rfl ?_
      -- R4.2 9 := model.go:366 assign
      refine WL.v (by first | exact r_assign (v := .int _ _) rfl | exact r_assign rfl) rfl rfl rfl ?_
      refine WL.next hK1 (fun _ _ h => h) (k + 1, S3) ⟨hk', ⟨hd3.lt, fun z hz h => hd3.up z hz (hdf.up z hz h), fun z hz h1 h2 y hy => ?_⟩, fun z hz h => ?_, st⟩ (by show 16 - (k + 1) < 16 - k; omega) (by repeat (first | exact sub_nil _ | refine sub_cons rfl rfl ?_))
      · have hy16 : y < 16 := by obtain ⟨_, _, h, _⟩ := hy; exact h
        cases hb : S2.testBit z with
        | false => exact hd3.cl z hz h1 hb y hy
        | true => have := hdf.cl z hz hb h2 y hy; exact ⟨this.1, hd3.up y hy16 this.2⟩
      · have hz16 : z < 16 := by have hz : z < k + 1 := hz; omega
        by_cases e : z = k
        · rw [e]; exact ⟨hkg, hb3⟩
        · have := hpre z (by have hz : z < k + 1 := hz; omega) h; exact ⟨this.1, hd3.up z hz16 this.2⟩
    · skip
      refine WC.condT rfl rfl ?_
      refine WC.seq fun K3297 hK3297 => ?_
      -- region 7
      refine WC.region ?_
      -- R7.0 8 := model.go:371 assign
      refine WL.v (by first | exact r_assign (v := .bool _) rfl | exact r_assign rfl) rfl rfl rfl ?_
      refine WL.fin hK3297 (fun _ _ h => h) ?_
      refine WC.ret1 Tryz.results125 (fun _ _ h => h) rfl ?_
      exact ⟨_, rfl, true, S3, rfl, fun _ => .thru k hk' (.edge hEd) (hyes rfl), (fun k => by cases k), st⟩
theorem pt_safe {held : Nat → Nat → Nat} {queue : Nat → List (Nat × Nat)} {g S : Nat} (hcl : ∀ x, x < 16 → S.testBit x = true → ∀ y, Ed held queue x y → y ≠ g ∧ S.testBit y = true) {a b k : Nat} (h : Pt (Ed held queue) k a b) : a < 16 → S.testBit a = true → b < 16 ∧ b ≠ g ∧ S.testBit b = true := by
  induction h using Pt.elim with
  | edge h => intro ha hs; have := hcl _ ha hs _ h; exact ⟨by obtain ⟨_, _, h, _⟩ := h; exact h, this⟩
  | thru c hc _ _ ih1 ih2 => intro ha hs; have := ih1 ha hs; exact ih2 this.1 this.2.2
end Go.Proofs.Qxb6500834aGreatDoor

