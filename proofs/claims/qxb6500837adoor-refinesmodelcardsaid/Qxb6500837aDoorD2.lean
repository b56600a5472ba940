import Derived.Test.Qxb6500837aDoorD1
set_option linter.unusedVariables false
set_option linter.unusedSimpArgs false
set_option maxRecDepth 20000
namespace Go.Proofs.Qxb6500837aDoor
open Go.RowKit Go.E1 Go.Disk
variable {w0 : World} {L : List HI} {w : World} {D : DK} {m : Int} {q : Obj → Prop}

theorem len_ok (h1 : D.hd ≤ D.tl) (h2 : D.tl ≤ 1000000000000) (st : S0 w0 (DI D m L) w) :
    Calls Tryd.prog 49 #[.pointer (some ⟨D.bD, 4, none⟩)] w (Ret fun v w' => v = .int .i64 ((D.tl - D.hd : Nat) : Int) ∧ S0 w0 (DI D m L) w') := by
  refine enter [.pointer (some ⟨D.bD, 4, none⟩)] Tryd.func49 rfl Tryd.ntmps49 rfl ?_
  show WC _ _ _ 12 [] [(0, .pointer (some ⟨D.bD, 4, none⟩))] _
  refine WC.seq fun K1 hK1 => ?_
  -- region 0
  refine WC.region ?_
  -- R0.0 2 := cache.go:31 assign
  refine WL.v (by first | exact r_assign (v := .int _ _) rfl | exact r_assign rfl) rfl rfl rfl ?_
  refine WL.fin hK1 (fun _ _ h => h) ?_
  refine WC.seq fun K2 hK2 => ?_
  -- region 1 (draws)
  refine WC.quietS st ty_mixed (by kernel_rfl) fun Kq hKq => ?_
  -- R1.0 3 := cache.go:31 move
  refine QL.v (fun w st => by first | exact r_move (v := .pointer _) rfl | exact r_move rfl) rfl rfl rfl ?_
  -- R1.1 4 := cache.go:31 nilCheck
  refine QL.v (fun w st => by exact r_nilCheck rfl) rfl rfl rfl ?_
  -- R1.2 5 := cache.go:31 fieldAddr
  refine QL.v (fun w st => by exact r_field ty_fld95_2 rfl) rfl rfl rfl ?_
  -- R1.3 6 := cache.go:31 load
  refine QL.v (fun w st => by exact r_load1 ty_one2 rfl (by first | assumption | exact st.c0 (by first | decide | omega) | exact st.c1 (by first | decide | omega) | exact st.c2 (by first | decide | omega) | exact st.c3 (by first | decide | omega) | exact st.c4 (by first | decide | omega) | exact st.c5 (by first | decide | omega) | exact st.c6 (by first | decide | omega) | exact st.c7 (by first | decide | omega) | exact st.c8 (by first | decide | omega))) rfl rfl rfl ?_
  -- R1.4 7 := cache.go:31 move
  refine QL.v (fun w st => by first | exact r_move (v := .pointer _) rfl | exact r_move rfl) rfl rfl rfl ?_
  -- R1.5 8 := cache.go:31 nilCheck
  refine QL.v (fun w st => by exact r_nilCheck rfl) rfl rfl rfl ?_
  -- R1.6 9 := cache.go:31 fieldAddr
  refine QL.v (fun w st => by exact r_field ty_fld95_1 rfl) rfl rfl rfl ?_
  -- R1.7 10 := cache.go:31 load
  refine QL.v (fun w st => by exact r_load1 ty_one2 rfl (by first | assumption | exact st.c0 (by first | decide | omega) | exact st.c1 (by first | decide | omega) | exact st.c2 (by first | decide | omega) | exact st.c3 (by first | decide | omega) | exact st.c4 (by first | decide | omega) | exact st.c5 (by first | decide | omega) | exact st.c6 (by first | decide | omega) | exact st.c7 (by first | decide | omega) | exact st.c8 (by first | decide | omega))) rfl rfl rfl ?_
  -- R1.8 11 := cache.go:31 binOp
  refine QL.v (fun w st => by exact r_sub (r := ((D.tl - D.hd : Nat) : Int)) rfl rfl ((wi64 (by omega) (by omega)).trans (by omega))) rfl rfl rfl ?_
  -- R1.9 2 := cache.go:31 assign
  refine QL.v (fun w st => by first | exact r_assign (v := .int _ _) rfl | exact r_assign rfl) rfl rfl rfl ?_
  refine QL.wl hKq fun w st => ?_
  refine WL.fin hK2 (fun _ _ h => h) ?_
  refine WC.ret1 Tryd.results49 (fun _ _ h => h) rfl ?_
  exact ⟨_, rfl, rfl, st⟩

theorem full_ok (h1 : D.hd ≤ D.tl) (h2 : D.tl ≤ 1000000000000) (h3 : D.limit ≤ 65536) (st : S0 w0 (DI D m L) w) :
    Calls Tryd.prog 55 #[.pointer (some ⟨D.bD, 4, none⟩)] w (Ret fun v w' => v = .bool (decide (D.tl - D.hd = D.limit)) ∧ S0 w0 (DI D m L) w') := by
  refine enter [.pointer (some ⟨D.bD, 4, none⟩)] Tryd.func55 rfl Tryd.ntmps55 rfl ?_
  show WC _ _ _ 10 [] [(0, .pointer (some ⟨D.bD, 4, none⟩))] _
  refine WC.seq fun K3 hK3 => ?_
  -- region 0
  refine WC.region ?_
  -- R0.0 2 := cache.go:33 assign
  refine WL.v (by first | exact r_assign (v := .bool _) rfl | exact r_assign rfl) rfl rfl rfl ?_
  refine WL.fin hK3 (fun _ _ h => h) ?_
  refine WC.seq fun K4 hK4 => ?_
  -- region 1 (draws)
  refine WC.quietS st ty_mixed (by kernel_rfl) fun Kq hKq => ?_
  -- R1.0 3 := cache.go:33 move
  refine QL.v (fun w st => by first | exact r_move (v := .pointer _) rfl | exact r_move rfl) rfl rfl rfl ?_
  -- R1.1 4 := cache.go:33 call
  refine QL.call (val := .int .i64 ((D.tl - D.hd : Nat) : Int)) (fun w st => r_call ty_call49 rfl) rfl rfl rfl (fun w st => len_ok h1 h2 st) ?_
  -- R1.2 5 := cache.go:33 move
  refine QL.v (fun w st => by first | exact r_move (v := .pointer _) rfl | exact r_move rfl) rfl rfl rfl ?_
  -- R1.3 6 := cache.go:33 nilCheck
  refine QL.v (fun w st => by exact r_nilCheck rfl) rfl rfl rfl ?_
  -- R1.4 7 := cache.go:33 fieldAddr
  refine QL.v (fun w st => by exact r_field ty_fld95_0 rfl) rfl rfl rfl ?_
  -- R1.5 8 := cache.go:33 load
  refine QL.v (fun w st => by exact r_load1 ty_one2 rfl (by first | assumption | exact st.c0 (by first | decide | omega) | exact st.c1 (by first | decide | omega) | exact st.c2 (by first | decide | omega) | exact st.c3 (by first | decide | omega) | exact st.c4 (by first | decide | omega) | exact st.c5 (by first | decide | omega) | exact st.c6 (by first | decide | omega) | exact st.c7 (by first | decide | omega) | exact st.c8 (by first | decide | omega))) rfl rfl rfl ?_
  -- R1.6 9 := cache.go:33 binOp
  refine QL.v (fun w st => by exact r_eql (t := decide (D.tl - D.hd = D.limit)) rfl rfl (by rw [decide_eq_decide]; omega)) rfl rfl rfl ?_
  -- R1.7 2 := cache.go:33 assign
  refine QL.v (fun w st => by first | exact r_assign (v := .bool _) rfl | exact r_assign rfl) rfl rfl rfl ?_
  refine QL.wl hKq fun w st => ?_
  refine WL.fin hK4 (fun _ _ h => h) ?_
  refine WC.ret1 Tryd.results55 (fun _ _ h => h) rfl ?_
  exact ⟨_, rfl, rfl, st⟩

theorem slF_some {sb : Nat → Option Nat} {i b : Nat} (h : sb i = some b) : slF sb i = .pointer (some ⟨b, 0, none⟩) := by unfold slF; rw [h]
theorem slF_none {sb : Nat → Option Nat} {i : Nat} (h : sb i = none) : slF sb i = .pointer none := by unfold slF; rw [h]
theorem exF_some {sb : Nat → Option Nat} {i b : Nat} (h : sb i = some b) : exF sb i = .slice (some ⟨b, 0, none⟩) 32768 32768 := by unfold exF; rw [h]
theorem exF_none {sb : Nat → Option Nat} {i : Nat} (h : sb i = none) : exF sb i = .slice none 0 0 := by unfold exF; rw [h]

set_option maxHeartbeats 4000000 in
theorem at_ok (sq b : Nat) (hl : 1 ≤ D.limit) (hl2 : D.limit ≤ 65536) (hq : sq ≤ 1000000000000) (hb : D.sb (sq % D.limit / 32) = some b) (st : S0 w0 (DIq q D m L) w) :
    Calls Tryd.prog 62 #[.pointer (some ⟨D.bD, 4, none⟩), .int .i64 (sq : Nat)] w (Ret fun v w' => v = .tuple #[.int .i64 (D.ss (sq % D.limit)), .slice (some ⟨b, 32 + sq % D.limit % 32 * 512, none⟩) 512 (16384 - sq % D.limit % 32 * 512)] ∧ S0 w0 (DIq q D m L) w') := by
  obtain ⟨s, hs⟩ : ∃ s, s = sq % D.limit := ⟨_, rfl⟩
  have hsl : s < D.limit := by rw [hs]; exact Nat.mod_lt _ (by omega)
  rw [← hs] at hb ⊢
  have hnS : s / 32 < D.nS := by unfold DK.nS; omega
  obtain ⟨k, hk⟩ : ∃ k, k = s % 32 := ⟨_, rfl⟩
  have hk2 : k < 32 := by omega
  rw [← hk]
  refine enter [.pointer (some ⟨D.bD, 4, none⟩), .int .i64 (sq : Nat)] Tryd.func62 rfl Tryd.ntmps62 rfl ?_
  show WC _ _ _ 40 [] [(0, .pointer (some ⟨D.bD, 4, none⟩)), (1, .int .i64 (sq : Nat))] _
  refine WC.seq fun K5 hK5 => ?_
  -- region 0
  refine WC.region ?_
  -- R0.0 4 := cache.go:36 assign
  refine WL.v (by first | exact r_assign (v := .int _ _) rfl | exact r_assign rfl) rfl rfl rfl ?_
  -- R0.1 5 := cache.go:36 assign
  refine WL.v (by first | exact r_assign (v := .slice _ _ _) rfl | exact r_assign rfl) rfl rfl rfl ?_
  refine WL.fin hK5 (fun _ _ h => h) ?_
  refine WC.seq fun K6 hK6 => ?_
  -- region 1
  refine WC.region ?_
  -- R1.0 9 := cache.go:37 move
  refine WL.v (by first | exact r_move (v := .int _ _) rfl | exact r_move rfl) rfl rfl rfl ?_
  -- R1.1 10 := cache.go:37 move
  refine WL.v (by first | exact r_move (v := .pointer _) rfl | exact r_move rfl) rfl rfl rfl ?_
  -- R1.2 11 := cache.go:37 nilCheck
  refine WL.v (by exact r_nilCheck rfl) rfl rfl rfl ?_
  -- R1.3 12 := cache.go:37 fieldAddr
  refine WL.v (by exact r_field ty_fld95_0 rfl) rfl rfl rfl ?_
  -- R1.4 13 := cache.go:37 load
  refine WL.v (by exact r_load1 ty_one2 rfl (by first | assumption | exact st.c0 (by first | decide | omega) | exact st.c1 (by first | decide | omega) | exact st.c2 (by first | decide | omega) | exact st.c3 (by first | decide | omega) | exact st.c4 (by first | decide | omega) | exact st.c5 (by first | decide | omega) | exact st.c6 (by first | decide | omega) | exact st.c7 (by first | decide | omega) | exact st.c8 (by first | decide | omega))) rfl rfl rfl ?_
  -- R1.5 14 := cache.go:37 binOp
  refine WL.v (by exact r_rem (r := (s : Int)) rfl rfl (by omega) (by rw [hs]; exact rfl)) rfl rfl rfl ?_
  -- R1.6 6 := cache.go:37 assign
  refine WL.v (by first | exact r_assign (v := .int _ _) rfl | exact r_assign rfl) rfl rfl rfl ?_
  refine WL.fin hK6 (fun _ _ h => h) ?_
  refine WC.seq fun K7 hK7 => ?_
  -- region 2
  refine WC.region ?_
  -- R2.0 15 := cache.go:38 move
  refine WL.v (by first | exact r_move (v := .pointer _) rfl | exact r_move rfl) rfl rfl rfl ?_
  -- R2.1 16 := cache.go:38 nilCheck
  refine WL.v (by exact r_nilCheck rfl) rfl rfl rfl ?_
  -- R2.2 17 := cache.go:38 fieldAddr
  refine WL.v (by exact r_field ty_fld95_3 rfl) rfl rfl rfl ?_
  -- R2.3 18 := cache.go:38 load
  refine WL.v (by exact r_load1 ty_one92 rfl (by first | assumption | exact st.c0 (by first | decide | omega) | exact st.c1 (by first | decide | omega) | exact st.c2 (by first | decide | omega) | exact st.c3 (by first | decide | omega) | exact st.c4 (by first | decide | omega) | exact st.c5 (by first | decide | omega) | exact st.c6 (by first | decide | omega) | exact st.c7 (by first | decide | omega) | exact st.c8 (by first | decide | omega))) rfl rfl rfl ?_
  -- R2.4 19 := cache.go:38 move
  refine WL.v (by first | exact r_move (v := .int _ _) rfl | exact r_move rfl) rfl rfl rfl ?_
  -- R2.5 20 := cache.go:38 binOp
  refine WL.v (by exact r_quo (r := ((s / 32 : Nat) : Int)) rfl rfl (by omega) (by rw [show ((s : Nat) : Int).tdiv 32 = ((s / 32 : Nat) : Int) from rfl]; exact wi64 (by omega) (by omega))) rfl rfl rfl ?_
  -- R2.6 21 := cache.go:38 indexAddr
  refine WL.v (by exact r_indexS (j := s / 32) ty_sl92 rfl rfl rfl hnS) rfl rfl rfl ?_
  -- R2.7 22 := cache.go:38 load
  refine WL.v (v := .pointer (some ⟨b, 0, none⟩)) (by exact r_load1 ty_one128 rfl (by rw [ld_slab st hnS, slF_some hb])) rfl rfl rfl ?_
  -- R2.8 7 := cache.go:38 assign
  refine WL.v (by first | exact r_assign (v := .pointer _) rfl | exact r_assign rfl) rfl rfl rfl ?_
  refine WL.fin hK7 (fun _ _ h => h) ?_
  refine WC.seq fun K8 hK8 => ?_
  -- region 3
  refine WC.region ?_
  -- R3.0 23 := cache.go:39 move
  refine WL.v (by first | exact r_move (v := .int _ _) rfl | exact r_move rfl) rfl rfl rfl ?_
  -- R3.1 24 := cache.go:39 binOp
  refine WL.v (by exact r_rem (r := (k : Int)) rfl rfl (by omega) (by rw [hk]; exact rfl)) rfl rfl rfl ?_
  -- R3.2 8 := cache.go:39 assign
  refine WL.v (by first | exact r_assign (v := .int _ _) rfl | exact r_assign rfl) rfl rfl rfl ?_
  refine WL.fin hK8 (fun _ _ h => h) ?_
  refine WC.seq fun K9 hK9 => ?_
  -- region 4 (draws)
  refine WC.quietS st ty_mixed (by kernel_rfl) fun Kq hKq => ?_
  -- R4.0 25 := cache.go:40 move
  refine QL.v (fun w st => by first | exact r_move (v := .pointer _) rfl | exact r_move rfl) rfl rfl rfl ?_
  -- R4.1 26 := cache.go:40 move
  refine QL.v (fun w st => by first | exact r_move (v := .int _ _) rfl | exact r_move rfl) rfl rfl rfl ?_
  -- R4.2 27 := cache.go:40 nilCheck
  refine QL.v (fun w st => by exact r_nilCheck rfl) rfl rfl rfl ?_
  -- R4.3 28 := cache.go:40 fieldAddr
  refine QL.v (fun w st => by exact r_field ty_fld132_0 rfl) rfl rfl rfl ?_
  -- R4.4 29 := cache.go:40 indexAddr
  refine QL.v (fun w st => by exact r_indexA (j := k) ty_ar129 rfl rfl rfl hk2) rfl rfl rfl ?_
  -- R4.5 30 := cache.go:40 load
  refine QL.v (fun w st => by exact r_load1 (v := .int .i64 (D.ss s)) ty_one2 rfl (by rw [show 0 + 0 + k * 1 = k by omega, ld_ss st hnS hb hk2, show 32 * (s / 32) + k = s by omega])) rfl rfl rfl ?_
  -- R4.6 31 := cache.go:40 move
  refine QL.v (fun w st => by first | exact r_move (v := .pointer _) rfl | exact r_move rfl) rfl rfl rfl ?_
  -- R4.7 32 := cache.go:40 nilCheck
  refine QL.v (fun w st => by exact r_nilCheck rfl) rfl rfl rfl ?_
  -- R4.8 33 := cache.go:40 fieldAddr
  refine QL.v (fun w st => by exact r_field ty_fld132_1 rfl) rfl rfl rfl ?_
  -- R4.9 34 := cache.go:40 move
  refine QL.v (fun w st => by first | exact r_move (v := .int _ _) rfl | exact r_move rfl) rfl rfl rfl ?_
  -- R4.10 35 := cache.go:40 binOp
  refine QL.v (fun w st => by exact r_mul (r := ((k * 512 : Nat) : Int)) rfl rfl ((wi64 (by omega) (by omega)).trans (by omega))) rfl rfl rfl ?_
  -- R4.11 36 := cache.go:40 move
  refine QL.v (fun w st => by first | exact r_move (v := .int _ _) rfl | exact r_move rfl) rfl rfl rfl ?_
  -- R4.12 37 := cache.go:40 binOp
  refine QL.v (fun w st => by exact r_add (r := ((k + 1 : Nat) : Int)) rfl rfl ((wi64 (by omega) (by omega)).trans (by omega))) rfl rfl rfl ?_
  -- R4.13 38 := cache.go:40 binOp
  refine QL.v (fun w st => by exact r_mul (r := (((k + 1) * 512 : Nat) : Int)) rfl rfl ((wi64 (by omega) (by omega)).trans (by omega))) rfl rfl rfl ?_
  -- R4.14 39 := cache.go:40 slice
  refine QL.v (fun w st => by exact r_slAB (l := k * 512) (h := (k + 1) * 512) ty_ar130 rfl rfl rfl (by omega) (by omega) (by omega)) rfl rfl rfl ?_
  -- R4.15 4 := cache.go:40 assign
  refine QL.v (fun w st => by first | exact r_assign (v := .int _ _) rfl | exact r_assign rfl) rfl rfl rfl ?_
  -- R4.16 5 := cache.go:40 assign
  refine QL.v (fun w st => by first | exact r_assign (v := .slice _ _ _) rfl | exact r_assign rfl) rfl rfl rfl ?_
  refine QL.wl hKq fun w st => ?_
  refine WL.fin hK9 (fun _ _ h => h) ?_
  refine WC.ret2 Tryd.results62 (fun _ _ h => h) rfl ?_
  refine ⟨_, rfl, ?_, st⟩
  show Value.tuple #[.int .i64 (D.ss s), .slice (some ⟨b, 0 + 32 + k * 512 * 1, none⟩) ((k + 1) * 512 - k * 512) (16384 - k * 512)] = _
  rw [show 0 + 32 + k * 512 * 1 = 32 + k * 512 by omega, show (k + 1) * 512 - k * 512 = 512 by omega]
end Go.Proofs.Qxb6500837aDoor

