import Derived.Test.Qxb6500837aDoorD4
set_option linter.unusedVariables false
set_option linter.unusedSimpArgs false
set_option maxRecDepth 20000
namespace Go.Proofs.Qxb6500837aDoor
open Go.RowKit Go.E1 Go.Disk
variable {w0 : World} {L : List HI} {w : World} {D : DK} {m : Int}

def datV (D : DK) (q b : Nat) : Value := .slice (some ⟨b, 32 + q % D.limit % 32 * 512, none⟩) 512 (16384 - q % D.limit % 32 * 512)
def popN (D : DK) : Int → Option Nat := if (D.N (D.ss (D.hd % D.limit))).getD 0 = D.hd then fun x => if x = D.ss (D.hd % D.limit) then none else D.N x else D.N
def popD (D : DK) : DK := { D with hd := D.hd + 1, N := popN D }

theorem nV_getD (N : Int → Option Nat) (s : Int) : (gOf (nV N) (.int .i64 s)).getD (.int .i64 0) = .int .i64 ((N s).getD 0 : Nat) := by
  show (nV N s).getD _ = _
  unfold nV; cases N s <;> rfl
theorem nV_some (N : Int → Option Nat) (s : Int) : (gOf (nV N) (.int .i64 s)).isSome = (N s).isSome := by
  show (nV N s).isSome = _
  unfold nV; cases N s <;> rfl

set_option maxHeartbeats 8000000 in
theorem pop_ok (b : Nat) (hl : 1 ≤ D.limit) (hl2 : D.limit ≤ 65536) (htl : D.tl ≤ 1000000000000) (hht : D.hd < D.tl) (hb : D.sb (D.hd % D.limit / 32) = some b) (hr : 0 ≤ D.ss (D.hd % D.limit) ∧ D.ss (D.hd % D.limit) ≤ 65536) (hN : ∀ q, D.N (D.ss (D.hd % D.limit)) = some q → q ≤ 1000000000000) (st : S0 w0 (DI D m L) w) :
    Calls Tryd.prog 56 #[.pointer (some ⟨D.bD, 4, none⟩)] w (Ret fun v w' => v = .tuple #[.int .i64 (D.ss (D.hd % D.limit)), datV D D.hd b] ∧ S0 w0 (DI (popD D) m L) w') := by
  obtain ⟨s, hs⟩ : ∃ s, s = D.ss (D.hd % D.limit) := ⟨_, rfl⟩
  rw [← hs] at hr hN
  have hq : (D.N s).getD 0 ≤ 1000000000000 := by
    cases h : D.N s with
    | none => exact Nat.zero_le _
    | some q => exact hN q h
  by_cases hc : (D.N s).getD 0 = D.hd
  · skip
    refine enter [.pointer (some ⟨D.bD, 4, none⟩)] Tryd.func56 rfl Tryd.ntmps56 rfl ?_
    show WC _ _ _ 40 [] [(0, .pointer (some ⟨D.bD, 4, none⟩))] _
    refine WC.seq fun K48 hK48 => ?_
    -- region 0
    refine WC.region ?_
    -- R0.0 2 := cache.go:59 assign
    refine WL.v (by first | exact r_assign (v := .int _ _) rfl | exact r_assign rfl) rfl rfl rfl ?_
    -- R0.1 3 := cache.go:59 assign
    refine WL.v (by first | exact r_assign (v := .slice _ _ _) rfl | exact r_assign rfl) rfl rfl rfl ?_
    refine WL.fin hK48 (fun _ _ h => h) ?_
    refine WC.seq fun K49 hK49 => ?_
    -- region 1
    refine WC.region ?_
    -- R1.0 7 := cache.go:60 move
    refine WL.v (by first | exact r_move (v := .pointer _) rfl | exact r_move rfl) rfl rfl rfl ?_
    -- R1.1 8 := cache.go:60 move
    refine WL.v (by first | exact r_move (v := .pointer _) rfl | exact r_move rfl) rfl rfl rfl ?_
    -- R1.2 9 := cache.go:60 nilCheck
    refine WL.v (by exact r_nilCheck rfl) rfl rfl rfl ?_
    -- R1.3 10 := cache.go:60 fieldAddr
    refine WL.v (by exact r_field ty_fld95_1 rfl) rfl rfl rfl ?_
    -- R1.4 11 := cache.go:60 load
    refine WL.v (by exact r_load1 ty_one2 rfl (by first | assumption | exact st.c0 (by first | decide | omega) | exact st.c1 (by first | decide | omega) | exact st.c2 (by first | decide | omega) | exact st.c3 (by first | decide | omega) | exact st.c4 (by first | decide | omega) | exact st.c5 (by first | decide | omega) | exact st.c6 (by first | decide | omega) | exact st.c7 (by first | decide | omega) | exact st.c8 (by first | decide | omega))) rfl rfl rfl ?_
    -- R1.5 12 := cache.go:60 call
    refine WL.call (r_call ty_call62 rfl) rfl rfl rfl (at_ok D.hd b hl hl2 (by omega) hb st) ?_
    rintro _ w ⟨rfl, st⟩
    rw [← hs]
    -- R1.6 6 := cache.go:60 move
    refine WL.v (by first | exact r_move (v := .tuple _) rfl | exact r_move rfl) rfl rfl rfl ?_
    -- R1.7 13 := cache.go:60 extract
    refine WL.v (by first | exact r_extract (v := .int _ _) rfl rfl | exact r_extract rfl rfl) rfl rfl rfl ?_
    -- R1.8 14 := cache.go:60 extract
    refine WL.v (by first | exact r_extract (v := .slice _ _ _) rfl rfl | exact r_extract rfl rfl) rfl rfl rfl ?_
    -- R1.9 4 := cache.go:60 assign
    refine WL.v (by first | exact r_assign (v := .int _ _) rfl | exact r_assign rfl) rfl rfl rfl ?_
    -- R1.10 5 := cache.go:60 assign
    refine WL.v (by first | exact r_assign (v := .slice _ _ _) rfl | exact r_assign rfl) rfl rfl rfl ?_
    refine WL.fin hK49 (fun _ _ h => h) ?_
    refine WC.seq fun K50 hK50 => ?_
    refine WC.seq fun K51 hK51 => ?_
    -- region 2 (draws)
    refine WC.quietS st ty_mixed (by kernel_rfl) fun Kq hKq => ?_
    -- R2.0 15 := cache.go:61 move
    refine QL.v (fun w st => by first | exact r_move (v := .pointer _) rfl | exact r_move rfl) rfl rfl rfl ?_
    -- R2.1 16 := cache.go:61 nilCheck
    refine QL.v (fun w st => by exact r_nilCheck rfl) rfl rfl rfl ?_
    -- R2.2 17 := cache.go:61 fieldAddr
    refine QL.v (fun w st => by exact r_field ty_fld95_4 rfl) rfl rfl rfl ?_
    -- R2.3 18 := cache.go:61 load
    refine QL.v (fun w st => by exact r_load1 ty_one93 rfl (by first | assumption | exact st.c0 (by first | decide | omega) | exact st.c1 (by first | decide | omega) | exact st.c2 (by first | decide | omega) | exact st.c3 (by first | decide | omega) | exact st.c4 (by first | decide | omega) | exact st.c5 (by first | decide | omega) | exact st.c6 (by first | decide | omega) | exact st.c7 (by first | decide | omega) | exact st.c8 (by first | decide | omega))) rfl rfl rfl ?_
    -- R2.4 19 := cache.go:61 move
    refine QL.v (fun w st => by first | exact r_move (v := .int _ _) rfl | exact r_move rfl) rfl rfl rfl ?_
    -- R2.5 20 := cache.go:61 lookup
    refine QL.v (fun w st => by exact r_look (v := .int .i64 ((D.N s).getD 0 : Nat)) ty_kb2 ty_mp93 ty_z12 rfl rfl st (by simp) (good64 (by omega) (by omega)) (nV_getD _ _)) rfl rfl rfl ?_
    -- R2.6 21 := cache.go:61 move
    refine QL.v (fun w st => by first | exact r_move (v := .pointer _) rfl | exact r_move rfl) rfl rfl rfl ?_
    -- R2.7 22 := cache.go:61 nilCheck
    refine QL.v (fun w st => by exact r_nilCheck rfl) rfl rfl rfl ?_
    -- R2.8 23 := cache.go:61 fieldAddr
    refine QL.v (fun w st => by exact r_field ty_fld95_1 rfl) rfl rfl rfl ?_
    -- R2.9 24 := cache.go:61 load
    refine QL.v (fun w st => by exact r_load1 ty_one2 rfl (by first | assumption | exact st.c0 (by first | decide | omega) | exact st.c1 (by first | decide | omega) | exact st.c2 (by first | decide | omega) | exact st.c3 (by first | decide | omega) | exact st.c4 (by first | decide | omega) | exact st.c5 (by first | decide | omega) | exact st.c6 (by first | decide | omega) | exact st.c7 (by first | decide | omega) | exact st.c8 (by first | decide | omega))) rfl rfl rfl ?_
    -- R2.10 25 := cache.go:61 binOp
    refine QL.v (fun w st => by exact r_eql rfl rfl (decide_eq_true (by rw [hc]))) rfl rfl rfl ?_
    refine QL.wl hKq fun w st => ?_
    refine WL.fin hK51 (fun _ _ h => h) ?_
    refine WC.condT rfl rfl ?_
    -- region 3
    refine WC.region ?_
    -- R3.0 26 := cache.go:62 move
    refine WL.v (by first | exact r_move (v := .pointer _) rfl | exact r_move rfl) rfl rfl rfl ?_
    -- R3.1 27 := cache.go:62 nilCheck
    refine WL.v (by exact r_nilCheck rfl) rfl rfl rfl ?_
    -- R3.2 28 := cache.go:62 fieldAddr
    refine WL.v (by exact r_field ty_fld95_4 rfl) rfl rfl rfl ?_
    -- R3.3 29 := cache.go:62 load
    refine WL.v (by exact r_load1 ty_one93 rfl (by first | assumption | exact st.c0 (by first | decide | omega) | exact st.c1 (by first | decide | omega) | exact st.c2 (by first | decide | omega) | exact st.c3 (by first | decide | omega) | exact st.c4 (by first | decide | omega) | exact st.c5 (by first | decide | omega) | exact st.c6 (by first | decide | omega) | exact st.c7 (by first | decide | omega) | exact st.c8 (by first | decide | omega))) rfl rfl rfl ?_
    -- R3.4 30 := cache.go:62 move
    refine WL.v (by first | exact r_move (v := .int _ _) rfl | exact r_move rfl) rfl rfl rfl ?_
    -- R3.5 None := cache.go:62 call
    refine WL.delI (s := s) ty_kb2 st.front3 ty_mp93 rfl rfl (good64 (by omega) (by omega)) rfl rfl ?_
    intro w st
    rw [delN_nV] at st
    have st := st.back3
    refine WL.fin hK50 (fun _ _ h => h) ?_
    refine WC.seq fun K52 hK52 => ?_
    -- region 4
    refine WC.region ?_
    -- R4.0 31 := cache.go:64 move
    refine WL.v (by first | exact r_move (v := .pointer _) rfl | exact r_move rfl) rfl rfl rfl ?_
    -- R4.1 32 := cache.go:64 nilCheck
    refine WL.v (by exact r_nilCheck rfl) rfl rfl rfl ?_
    -- R4.2 33 := cache.go:64 fieldAddr
    refine WL.v (by exact r_field ty_fld95_1 rfl) rfl rfl rfl ?_
    -- R4.3 34 := cache.go:64 load
    refine WL.v (by exact r_load1 ty_one2 rfl (by first | assumption | exact st.c0 (by first | decide | omega) | exact st.c1 (by first | decide | omega) | exact st.c2 (by first | decide | omega) | exact st.c3 (by first | decide | omega) | exact st.c4 (by first | decide | omega) | exact st.c5 (by first | decide | omega) | exact st.c6 (by first | decide | omega) | exact st.c7 (by first | decide | omega) | exact st.c8 (by first | decide | omega))) rfl rfl rfl ?_
    -- R4.4 35 := cache.go:64 binOp
    refine WL.v (by exact r_add (a := ((D.hd : Nat) : Int)) (r := ((D.hd + 1 : Nat) : Int)) rfl rfl ((wi64 (by omega) (by omega)).trans (by omega))) rfl rfl rfl ?_
    -- R4.5 36 := cache.go:64 nilCheck
    refine WL.v (by exact r_nilCheck rfl) rfl rfl rfl ?_
    -- R4.6 37 := cache.go:64 fieldAddr
    refine WL.v (by exact r_field ty_fld95_1 rfl) rfl rfl rfl ?_
    -- R4.7 None := cache.go:64 store
    first | refine WL.store (v := .int _ _) st ty_one2 rfl rfl rfl (by first | decide | omega) rfl rfl ?_ | refine WL.store (v := _) st ty_one2 rfl rfl rfl (by first | decide | omega) rfl rfl ?_ | refine WL.store (v := .int _ _) st.front1 ty_one2 rfl rfl rfl (by first | decide | omega) rfl rfl ?_ | refine WL.store (v := _) st.front1 ty_one2 rfl rfl rfl (by first | decide | omega) rfl rfl ?_ | refine WL.store (v := .int _ _) st.front2 ty_one2 rfl rfl rfl (by first | decide | omega) rfl rfl ?_ | refine WL.store (v := _) st.front2 ty_one2 rfl rfl rfl (by first | decide | omega) rfl rfl ?_ | refine WL.store (v := .int _ _) st.front3 ty_one2 rfl rfl rfl (by first | decide | omega) rfl rfl ?_ | refine WL.store (v := _) st.front3 ty_one2 rfl rfl rfl (by first | decide | omega) rfl rfl ?_ | refine WL.store (v := .int _ _) st.front4 ty_one2 rfl rfl rfl (by first | decide | omega) rfl rfl ?_ | refine WL.store (v := _) st.front4 ty_one2 rfl rfl rfl (by first | decide | omega) rfl rfl ?_ | refine WL.store (v := .int _ _) st.front5 ty_one2 rfl rfl rfl (by first | decide | omega) rfl rfl ?_ | refine WL.store (v := _) st.front5 ty_one2 rfl rfl rfl (by first | decide | omega) rfl rfl ?_ | refine WL.store (v := .int _ _) st.front6 ty_one2 rfl rfl rfl (by first | decide | omega) rfl rfl ?_ | refine WL.store (v := _) st.front6 ty_one2 rfl rfl rfl (by first | decide | omega) rfl rfl ?_ | refine WL.store (v := .int _ _) st.front7 ty_one2 rfl rfl rfl (by first | decide | omega) rfl rfl ?_ | refine WL.store (v := _) st.front7 ty_one2 rfl rfl rfl (by first | decide | omega) rfl rfl ?_ | refine WL.store (v := .int _ _) st.front8 ty_one2 rfl rfl rfl (by first | decide | omega) rfl rfl ?_ | refine WL.store (v := _) st.front8 ty_one2 rfl rfl rfl (by first | decide | omega) rfl rfl ?_
    intro w st
    refine WL.fin hK52 (fun _ _ h => h) ?_
    refine WC.seq fun K53 hK53 => ?_
    -- region 5
    refine WC.region ?_
    -- R5.0 38 := cache.go:65 move
    refine WL.v (by first | exact r_move (v := .int _ _) rfl | exact r_move rfl) rfl rfl rfl ?_
    -- R5.1 39 := cache.go:65 move
    refine WL.v (by first | exact r_move (v := .slice _ _ _) rfl | exact r_move rfl) rfl rfl rfl ?_
    -- R5.2 2 := cache.go:65 assign
    refine WL.v (by first | exact r_assign (v := .int _ _) rfl | exact r_assign rfl) rfl rfl rfl ?_
    -- R5.3 3 := cache.go:65 assign
    refine WL.v (by first | exact r_assign (v := .slice _ _ _) rfl | exact r_assign rfl) rfl rfl rfl ?_
    refine WL.fin hK53 (fun _ _ h => h) ?_
    refine WC.ret2 Tryd.results56 (fun _ _ h => h) rfl ?_
    have st := st_nrm (L' := dC m (popD D)) rfl st
    refine ⟨_, rfl, by rw [hs]; rfl, ?_⟩
    have e : popN D = fun x => if x = s then none else D.N x := by unfold popN; rw [← hs, if_pos hc]
    have e2 : popD D = { D with hd := D.hd + 1, N := fun x => if x = s then none else D.N x } := by unfold popD; rw [e]
    rw [e2]; rw [e2] at st; exact st
  · skip
    refine enter [.pointer (some ⟨D.bD, 4, none⟩)] Tryd.func56 rfl Tryd.ntmps56 rfl ?_
    show WC _ _ _ 40 [] [(0, .pointer (some ⟨D.bD, 4, none⟩))] _
    refine WC.seq fun K54 hK54 => ?_
    -- region 0
    refine WC.region ?_
    -- R0.0 2 := cache.go:59 assign
    refine WL.v (by first | exact r_assign (v := .int _ _) rfl | exact r_assign rfl) rfl rfl rfl ?_
    -- R0.1 3 := cache.go:59 assign
    refine WL.v (by first | exact r_assign (v := .slice _ _ _) rfl | exact r_assign rfl) rfl rfl rfl ?_
    refine WL.fin hK54 (fun _ _ h => h) ?_
    refine WC.seq fun K55 hK55 => ?_
    -- region 1
    refine WC.region ?_
    -- R1.0 7 := cache.go:60 move
    refine WL.v (by first | exact r_move (v := .pointer _) rfl | exact r_move rfl) rfl rfl rfl ?_
    -- R1.1 8 := cache.go:60 move
    refine WL.v (by first | exact r_move (v := .pointer _) rfl | exact r_move rfl) rfl rfl rfl ?_
    -- R1.2 9 := cache.go:60 nilCheck
    refine WL.v (by exact r_nilCheck rfl) rfl rfl rfl ?_
    -- R1.3 10 := cache.go:60 fieldAddr
    refine WL.v (by exact r_field ty_fld95_1 rfl) rfl rfl rfl ?_
    -- R1.4 11 := cache.go:60 load
    refine WL.v (by exact r_load1 ty_one2 rfl (by first | assumption | exact st.c0 (by first | decide | omega) | exact st.c1 (by first | decide | omega) | exact st.c2 (by first | decide | omega) | exact st.c3 (by first | decide | omega) | exact st.c4 (by first | decide | omega) | exact st.c5 (by first | decide | omega) | exact st.c6 (by first | decide | omega) | exact st.c7 (by first | decide | omega) | exact st.c8 (by first | decide | omega))) rfl rfl rfl ?_
    -- R1.5 12 := cache.go:60 call
    refine WL.call (r_call ty_call62 rfl) rfl rfl rfl (at_ok D.hd b hl hl2 (by omega) hb st) ?_
    rintro _ w ⟨rfl, st⟩
    rw [← hs]
    -- R1.6 6 := cache.go:60 move
    refine WL.v (by first | exact r_move (v := .tuple _) rfl | exact r_move rfl) rfl rfl rfl ?_
    -- R1.7 13 := cache.go:60 extract
    refine WL.v (by first | exact r_extract (v := .int _ _) rfl rfl | exact r_extract rfl rfl) rfl rfl rfl ?_
    -- R1.8 14 := cache.go:60 extract
    refine WL.v (by first | exact r_extract (v := .slice _ _ _) rfl rfl | exact r_extract rfl rfl) rfl rfl rfl ?_
    -- R1.9 4 := cache.go:60 assign
    refine WL.v (by first | exact r_assign (v := .int _ _) rfl | exact r_assign rfl) rfl rfl rfl ?_
    -- R1.10 5 := cache.go:60 assign
    refine WL.v (by first | exact r_assign (v := .slice _ _ _) rfl | exact r_assign rfl) rfl rfl rfl ?_
    refine WL.fin hK55 (fun _ _ h => h) ?_
    refine WC.seq fun K56 hK56 => ?_
    refine WC.seq fun K57 hK57 => ?_
    -- region 2 (draws)
    refine WC.quietS st ty_mixed (by kernel_rfl) fun Kq hKq => ?_
    -- R2.0 15 := cache.go:61 move
    refine QL.v (fun w st => by first | exact r_move (v := .pointer _) rfl | exact r_move rfl) rfl rfl rfl ?_
    -- R2.1 16 := cache.go:61 nilCheck
    refine QL.v (fun w st => by exact r_nilCheck rfl) rfl rfl rfl ?_
    -- R2.2 17 := cache.go:61 fieldAddr
    refine QL.v (fun w st => by exact r_field ty_fld95_4 rfl) rfl rfl rfl ?_
    -- R2.3 18 := cache.go:61 load
    refine QL.v (fun w st => by exact r_load1 ty_one93 rfl (by first | assumption | exact st.c0 (by first | decide | omega) | exact st.c1 (by first | decide | omega) | exact st.c2 (by first | decide | omega) | exact st.c3 (by first | decide | omega) | exact st.c4 (by first | decide | omega) | exact st.c5 (by first | decide | omega) | exact st.c6 (by first | decide | omega) | exact st.c7 (by first | decide | omega) | exact st.c8 (by first | decide | omega))) rfl rfl rfl ?_
    -- R2.4 19 := cache.go:61 move
    refine QL.v (fun w st => by first | exact r_move (v := .int _ _) rfl | exact r_move rfl) rfl rfl rfl ?_
    -- R2.5 20 := cache.go:61 lookup
    refine QL.v (fun w st => by exact r_look (v := .int .i64 ((D.N s).getD 0 : Nat)) ty_kb2 ty_mp93 ty_z12 rfl rfl st (by simp) (good64 (by omega) (by omega)) (nV_getD _ _)) rfl rfl rfl ?_
    -- R2.6 21 := cache.go:61 move
    refine QL.v (fun w st => by first | exact r_move (v := .pointer _) rfl | exact r_move rfl) rfl rfl rfl ?_
    -- R2.7 22 := cache.go:61 nilCheck
    refine QL.v (fun w st => by exact r_nilCheck rfl) rfl rfl rfl ?_
    -- R2.8 23 := cache.go:61 fieldAddr
    refine QL.v (fun w st => by exact r_field ty_fld95_1 rfl) rfl rfl rfl ?_
    -- R2.9 24 := cache.go:61 load
    refine QL.v (fun w st => by exact r_load1 ty_one2 rfl (by first | assumption | exact st.c0 (by first | decide | omega) | exact st.c1 (by first | decide | omega) | exact st.c2 (by first | decide | omega) | exact st.c3 (by first | decide | omega) | exact st.c4 (by first | decide | omega) | exact st.c5 (by first | decide | omega) | exact st.c6 (by first | decide | omega) | exact st.c7 (by first | decide | omega) | exact st.c8 (by first | decide | omega))) rfl rfl rfl ?_
    -- R2.10 25 := cache.go:61 binOp
    refine QL.v (fun w st => by exact r_eql rfl rfl (decide_eq_false (by omega))) rfl rfl rfl ?_
    refine QL.wl hKq fun w st => ?_
    refine WL.fin hK57 (fun _ _ h => h) ?_
    refine WC.condF rfl rfl ?_
    refine WC.skipF hK56 (fun _ _ h => h) ?_
    refine WC.seq fun K58 hK58 => ?_
    -- region 4
    refine WC.region ?_
    -- R4.0 31 := cache.go:64 move
    refine WL.v (by first | exact r_move (v := .pointer _) rfl | exact r_move rfl) rfl rfl rfl ?_
    -- R4.1 32 := cache.go:64 nilCheck
    refine WL.v (by exact r_nilCheck rfl) rfl rfl rfl ?_
    -- R4.2 33 := cache.go:64 fieldAddr
    refine WL.v (by exact r_field ty_fld95_1 rfl) rfl rfl rfl ?_
    -- R4.3 34 := cache.go:64 load
    refine WL.v (by exact r_load1 ty_one2 rfl (by first | assumption | exact st.c0 (by first | decide | omega) | exact st.c1 (by first | decide | omega) | exact st.c2 (by first | decide | omega) | exact st.c3 (by first | decide | omega) | exact st.c4 (by first | decide | omega) | exact st.c5 (by first | decide | omega) | exact st.c6 (by first | decide | omega) | exact st.c7 (by first | decide | omega) | exact st.c8 (by first | decide | omega))) rfl rfl rfl ?_
    -- R4.4 35 := cache.go:64 binOp
    refine WL.v (by exact r_add (a := ((D.hd : Nat) : Int)) (r := ((D.hd + 1 : Nat) : Int)) rfl rfl ((wi64 (by omega) (by omega)).trans (by omega))) rfl rfl rfl ?_
    -- R4.5 36 := cache.go:64 nilCheck
    refine WL.v (by exact r_nilCheck rfl) rfl rfl rfl ?_
    -- R4.6 37 := cache.go:64 fieldAddr
    refine WL.v (by exact r_field ty_fld95_1 rfl) rfl rfl rfl ?_
    -- R4.7 None := cache.go:64 store
    first | refine WL.store (v := .int _ _) st ty_one2 rfl rfl rfl (by first | decide | omega) rfl rfl ?_ | refine WL.store (v := _) st ty_one2 rfl rfl rfl (by first | decide | omega) rfl rfl ?_ | refine WL.store (v := .int _ _) st.front1 ty_one2 rfl rfl rfl (by first | decide | omega) rfl rfl ?_ | refine WL.store (v := _) st.front1 ty_one2 rfl rfl rfl (by first | decide | omega) rfl rfl ?_ | refine WL.store (v := .int _ _) st.front2 ty_one2 rfl rfl rfl (by first | decide | omega) rfl rfl ?_ | refine WL.store (v := _) st.front2 ty_one2 rfl rfl rfl (by first | decide | omega) rfl rfl ?_ | refine WL.store (v := .int _ _) st.front3 ty_one2 rfl rfl rfl (by first | decide | omega) rfl rfl ?_ | refine WL.store (v := _) st.front3 ty_one2 rfl rfl rfl (by first | decide | omega) rfl rfl ?_ | refine WL.store (v := .int _ _) st.front4 ty_one2 rfl rfl rfl (by first | decide | omega) rfl rfl ?_ | refine WL.store (v := _) st.front4 ty_one2 rfl rfl rfl (by first | decide | omega) rfl rfl ?_ | refine WL.store (v := .int _ _) st.front5 ty_one2 rfl rfl rfl (by first | decide | omega) rfl rfl ?_ | refine WL.store (v := _) st.front5 ty_one2 rfl rfl rfl (by first | decide | omega) rfl rfl ?_ | refine WL.store (v := .int _ _) st.front6 ty_one2 rfl rfl rfl (by first | decide | omega) rfl rfl ?_ | refine WL.store (v := _) st.front6 ty_one2 rfl rfl rfl (by first | decide | omega) rfl rfl ?_ | refine WL.store (v := .int _ _) st.front7 ty_one2 rfl rfl rfl (by first | decide | omega) rfl rfl ?_ | refine WL.store (v := _) st.front7 ty_one2 rfl rfl rfl (by first | decide | omega) rfl rfl ?_ | refine WL.store (v := .int _ _) st.front8 ty_one2 rfl rfl rfl (by first | decide | omega) rfl rfl ?_ | refine WL.store (v := _) st.front8 ty_one2 rfl rfl rfl (by first | decide | omega) rfl rfl ?_
    intro w st
    refine WL.fin hK58 (fun _ _ h => h) ?_
    refine WC.seq fun K59 hK59 => ?_
    -- region 5
    refine WC.region ?_
    -- R5.0 38 := cache.go:65 move
    refine WL.v (by first | exact r_move (v := .int _ _) rfl | exact r_move rfl) rfl rfl rfl ?_
    -- R5.1 39 := cache.go:65 move
    refine WL.v (by first | exact r_move (v := .slice _ _ _) rfl | exact r_move rfl) rfl rfl rfl ?_
    -- R5.2 2 := cache.go:65 assign
    refine WL.v (by first | exact r_assign (v := .int _ _) rfl | exact r_assign rfl) rfl rfl rfl ?_
    -- R5.3 3 := cache.go:65 assign
    refine WL.v (by first | exact r_assign (v := .slice _ _ _) rfl | exact r_assign rfl) rfl rfl rfl ?_
    refine WL.fin hK59 (fun _ _ h => h) ?_
    refine WC.ret2 Tryd.results56 (fun _ _ h => h) rfl ?_
    have st := st_nrm (L' := dC m (popD D)) rfl st
    refine ⟨_, rfl, by rw [hs]; rfl, ?_⟩
    have e : popN D = D.N := by unfold popN; rw [← hs, if_neg hc]
    have e2 : popD D = { D with hd := D.hd + 1 } := by unfold popD; rw [e]
    rw [e2]; rw [e2] at st; exact st

set_option maxHeartbeats 8000000 in
theorem lookup_ok (s : Nat) (hs : s ≤ 65536) (hl : 1 ≤ D.limit) (hl2 : D.limit ≤ 65536) (hN : ∀ q, D.N s = some q → q ≤ 1000000000000 ∧ D.sb (q % D.limit / 32) ≠ none) (st : S0 w0 (DI D m L) w) :
    Calls Tryd.prog 60 #[.pointer (some ⟨D.bD, 4, none⟩), .int .i64 (s : Nat)] w (Ret fun v w' => ((D.N s = none ∧ v = .tuple #[.slice none 0 0, .bool false]) ∨ ∃ q b, D.N s = some q ∧ D.sb (q % D.limit / 32) = some b ∧ v = .tuple #[datV D q b, .bool true]) ∧ S0 w0 (DI D m L) w') := by
  cases hq : D.N s with
  | none =>
    refine enter [.pointer (some ⟨D.bD, 4, none⟩), .int .i64 (s : Nat)] Tryd.func60 rfl Tryd.ntmps60 rfl ?_
    show WC _ _ _ 28 [] [(0, .pointer (some ⟨D.bD, 4, none⟩)), (1, .int .i64 (s : Nat))] _
    refine WC.seq fun K60 hK60 => ?_
    -- region 0
    refine WC.region ?_
    -- R0.0 4 := cache.go:69 assign
    refine WL.v (by first | exact r_assign (v := .slice _ _ _) rfl | exact r_assign rfl) rfl rfl rfl ?_
    -- R0.1 5 := cache.go:69 assign
    refine WL.v (by first | exact r_assign (v := .bool _) rfl | exact r_assign rfl) rfl rfl rfl ?_
    refine WL.fin hK60 (fun _ _ h => h) ?_
    refine WC.seq fun K61 hK61 => ?_
    -- region 1
    refine WC.region ?_
    -- R1.0 11 := cache.go:70 move
    refine WL.v (by first | exact r_move (v := .pointer _) rfl | exact r_move rfl) rfl rfl rfl ?_
    -- R1.1 12 := cache.go:70 nilCheck
    refine WL.v (by exact r_nilCheck rfl) rfl rfl rfl ?_
    -- R1.2 13 := cache.go:70 fieldAddr
    refine WL.v (by exact r_field ty_fld95_4 rfl) rfl rfl rfl ?_
    -- R1.3 14 := cache.go:70 load
    refine WL.v (by exact r_load1 ty_one93 rfl (by first | assumption | exact st.c0 (by first | decide | omega) | exact st.c1 (by first | decide | omega) | exact st.c2 (by first | decide | omega) | exact st.c3 (by first | decide | omega) | exact st.c4 (by first | decide | omega) | exact st.c5 (by first | decide | omega) | exact st.c6 (by first | decide | omega) | exact st.c7 (by first | decide | omega) | exact st.c8 (by first | decide | omega))) rfl rfl rfl ?_
    -- R1.4 15 := cache.go:70 move
    refine WL.v (by first | exact r_move (v := .int _ _) rfl | exact r_move rfl) rfl rfl rfl ?_
    -- R1.5 16 := cache.go:70 lookup
    refine WL.v (by exact r_lookok (G := gOf (nV D.N)) (v := .int .i64 0) (t := false) ty_kb2 ty_mp93 ty_z12 rfl rfl st (by simp) (good64 (by omega) (by omega)) ((nV_getD _ _).trans (by rw [hq]; rfl)) ((nV_some _ _).trans (by rw [hq]; rfl))) rfl rfl rfl ?_
    -- R1.6 10 := cache.go:70 move
    refine WL.v (by first | exact r_move (v := .tuple _) rfl | exact r_move rfl) rfl rfl rfl ?_
    -- R1.7 17 := cache.go:70 extract
    refine WL.v (by first | exact r_extract (v := .int _ _) rfl rfl | exact r_extract rfl rfl) rfl rfl rfl ?_
    -- R1.8 18 := cache.go:70 extract
    refine WL.v (by first | exact r_extract (v := .bool _) rfl rfl | exact r_extract rfl rfl) rfl rfl rfl ?_
    -- R1.9 6 := cache.go:70 assign
    refine WL.v (by first | exact r_assign (v := .int _ _) rfl | exact r_assign rfl) rfl rfl rfl ?_
    -- R1.10 7 := cache.go:70 assign
    refine WL.v (by first | exact r_assign (v := .bool _) rfl | exact r_assign rfl) rfl rfl rfl ?_
    refine WL.fin hK61 (fun _ _ h => h) ?_
    refine WC.seq fun K62 hK62 => ?_
    refine WC.seq fun K63 hK63 => ?_
    -- region 2
    refine WC.region ?_
    -- R2.0 19 := cache.go:71 move
    refine WL.v (by first | exact r_move (v := .bool _) rfl | exact r_move rfl) rfl rfl rfl ?_
    -- R2.1 20 := cache.go:71 unOp
    refine WL.v (by first | exact r_notT rfl | exact r_notF rfl | exact r_not rfl) rfl rfl rfl ?_
    refine WL.fin hK63 (fun _ _ h => h) ?_
    refine WC.condT rfl rfl ?_
    refine WC.seq fun K64 hK64 => ?_
    -- region 3
    refine WC.region ?_
    -- R3.0 4 := cache.go:72 assign
    refine WL.v (by first | exact r_assign (v := .slice _ _ _) rfl | exact r_assign rfl) rfl rfl rfl ?_
    -- R3.1 5 := cache.go:72 assign
    refine WL.v (by first | exact r_assign (v := .bool _) rfl | exact r_assign rfl) rfl rfl rfl ?_
    refine WL.fin hK64 (fun _ _ h => h) ?_
    refine WC.ret2 Tryd.results60 (fun _ _ h => h) rfl ?_
    exact ⟨_, rfl, .inl ⟨rfl, rfl⟩, st⟩
  | some q =>
    obtain ⟨hq1, hq2⟩ := hN q hq
    obtain ⟨b, hb⟩ := Option.ne_none_iff_exists'.1 hq2
    refine enter [.pointer (some ⟨D.bD, 4, none⟩), .int .i64 (s : Nat)] Tryd.func60 rfl Tryd.ntmps60 rfl ?_
    show WC _ _ _ 28 [] [(0, .pointer (some ⟨D.bD, 4, none⟩)), (1, .int .i64 (s : Nat))] _
    refine WC.seq fun K65 hK65 => ?_
    -- region 0
    refine WC.region ?_
    -- R0.0 4 := cache.go:69 assign
    refine WL.v (by first | exact r_assign (v := .slice _ _ _) rfl | exact r_assign rfl) rfl rfl rfl ?_
    -- R0.1 5 := cache.go:69 assign
    refine WL.v (by first | exact r_assign (v := .bool _) rfl | exact r_assign rfl) rfl rfl rfl ?_
    refine WL.fin hK65 (fun _ _ h => h) ?_
    refine WC.seq fun K66 hK66 => ?_
    -- region 1
    refine WC.region ?_
    -- R1.0 11 := cache.go:70 move
    refine WL.v (by first | exact r_move (v := .pointer _) rfl | exact r_move rfl) rfl rfl rfl ?_
    -- R1.1 12 := cache.go:70 nilCheck
    refine WL.v (by exact r_nilCheck rfl) rfl rfl rfl ?_
    -- R1.2 13 := cache.go:70 fieldAddr
    refine WL.v (by exact r_field ty_fld95_4 rfl) rfl rfl rfl ?_
    -- R1.3 14 := cache.go:70 load
    refine WL.v (by exact r_load1 ty_one93 rfl (by first | assumption | exact st.c0 (by first | decide | omega) | exact st.c1 (by first | decide | omega) | exact st.c2 (by first | decide | omega) | exact st.c3 (by first | decide | omega) | exact st.c4 (by first | decide | omega) | exact st.c5 (by first | decide | omega) | exact st.c6 (by first | decide | omega) | exact st.c7 (by first | decide | omega) | exact st.c8 (by first | decide | omega))) rfl rfl rfl ?_
    -- R1.4 15 := cache.go:70 move
    refine WL.v (by first | exact r_move (v := .int _ _) rfl | exact r_move rfl) rfl rfl rfl ?_
    -- R1.5 16 := cache.go:70 lookup
    refine WL.v (by exact r_lookok (G := gOf (nV D.N)) (v := .int .i64 (q : Nat)) (t := true) ty_kb2 ty_mp93 ty_z12 rfl rfl st (by simp) (good64 (by omega) (by omega)) ((nV_getD _ _).trans (by rw [hq]; rfl)) ((nV_some _ _).trans (by rw [hq]; rfl))) rfl rfl rfl ?_
    -- R1.6 10 := cache.go:70 move
    refine WL.v (by first | exact r_move (v := .tuple _) rfl | exact r_move rfl) rfl rfl rfl ?_
    -- R1.7 17 := cache.go:70 extract
    refine WL.v (by first | exact r_extract (v := .int _ _) rfl rfl | exact r_extract rfl rfl) rfl rfl rfl ?_
    -- R1.8 18 := cache.go:70 extract
    refine WL.v (by first | exact r_extract (v := .bool _) rfl rfl | exact r_extract rfl rfl) rfl rfl rfl ?_
    -- R1.9 6 := cache.go:70 assign
    refine WL.v (by first | exact r_assign (v := .int _ _) rfl | exact r_assign rfl) rfl rfl rfl ?_
    -- R1.10 7 := cache.go:70 assign
    refine WL.v (by first | exact r_assign (v := .bool _) rfl | exact r_assign rfl) rfl rfl rfl ?_
    refine WL.fin hK66 (fun _ _ h => h) ?_
    refine WC.seq fun K67 hK67 => ?_
    refine WC.seq fun K68 hK68 => ?_
    -- region 2
    refine WC.region ?_
    -- R2.0 19 := cache.go:71 move
    refine WL.v (by first | exact r_move (v := .bool _) rfl | exact r_move rfl) rfl rfl rfl ?_
    -- R2.1 20 := cache.go:71 unOp
    refine WL.v (by first | exact r_notT rfl | exact r_notF rfl | exact r_not rfl) rfl rfl rfl ?_
    refine WL.fin hK68 (fun _ _ h => h) ?_
    refine WC.condF rfl rfl ?_
    refine WC.skipF hK67 (fun _ _ h => h) ?_
    refine WC.seq fun K69 hK69 => ?_
    -- region 4
    refine WC.region ?_
    -- R4.0 22 := cache.go:74 move
    refine WL.v (by first | exact r_move (v := .pointer _) rfl | exact r_move rfl) rfl rfl rfl ?_
    -- R4.1 23 := cache.go:74 move
    refine WL.v (by first | exact r_move (v := .int _ _) rfl | exact r_move rfl) rfl rfl rfl ?_
    -- R4.2 24 := cache.go:74 call
    refine WL.call (r_call ty_call62 rfl) rfl rfl rfl (at_ok q b hl hl2 hq1 hb st) ?_
    rintro _ w ⟨rfl, st⟩
    -- R4.3 21 := cache.go:74 move
    refine WL.v (by first | exact r_move (v := .tuple _) rfl | exact r_move rfl) rfl rfl rfl ?_
    -- R4.4 25 := cache.go:74 extract
    refine WL.v (by first | exact r_extract (v := .int _ _) rfl rfl | exact r_extract rfl rfl) rfl rfl rfl ?_
    -- R4.5 26 := cache.go:74 extract
    refine WL.v (by first | exact r_extract (v := .slice _ _ _) rfl rfl | exact r_extract rfl rfl) rfl rfl rfl ?_
    -- R4.6 8 := cache.go:74 assign
    refine WL.v (by first | exact r_assign (v := .int _ _) rfl | exact r_assign rfl) rfl rfl rfl ?_
    -- R4.7 9 := cache.go:74 assign
    refine WL.v (by first | exact r_assign (v := .slice _ _ _) rfl | exact r_assign rfl) rfl rfl rfl ?_
    refine WL.fin hK69 (fun _ _ h => h) ?_
    refine WC.seq fun K70 hK70 => ?_
    -- region 5
    refine WC.region ?_
    -- R5.0 27 := cache.go:75 move
    refine WL.v (by first | exact r_move (v := .slice _ _ _) rfl | exact r_move rfl) rfl rfl rfl ?_
    -- R5.1 4 := cache.go:75 assign
    refine WL.v (by first | exact r_assign (v := .slice _ _ _) rfl | exact r_assign rfl) rfl rfl rfl ?_
    -- R5.2 5 := cache.go:75 assign
    refine WL.v (by first | exact r_assign (v := .bool _) rfl | exact r_assign rfl) rfl rfl rfl ?_
    refine WL.fin hK70 (fun _ _ h => h) ?_
    refine WC.ret2 Tryd.results60 (fun _ _ h => h) rfl ?_
    exact ⟨_, rfl, .inr ⟨q, b, rfl, hb, rfl⟩, st⟩

def dropD (D : DK) : DK := { D with hd := D.tl, N := fun _ => none }
theorem nV_none : gOf (nV fun _ => none) = gOf fun _ => none := rfl

set_option maxHeartbeats 8000000 in
theorem drop_ok (st : S0 w0 (DI D m L) w) :
    Calls Tryd.prog 63 #[.pointer (some ⟨D.bD, 4, none⟩)] w (Ret fun v w' => S0 w0 (DI (dropD D) m L) w') := by
  refine enter [.pointer (some ⟨D.bD, 4, none⟩)] Tryd.func63 rfl Tryd.ntmps63 rfl ?_
  show WC _ _ _ 13 [] [(0, .pointer (some ⟨D.bD, 4, none⟩))] _
  refine WC.seq fun K71 hK71 => ?_
  -- region 0
  refine WC.region ?_
  -- R0.0 2 := cache.go:80 move
  refine WL.v (by first | exact r_move (v := .pointer _) rfl | exact r_move rfl) rfl rfl rfl ?_
  -- R0.1 3 := cache.go:80 move
  refine WL.v (by first | exact r_move (v := .pointer _) rfl | exact r_move rfl) rfl rfl rfl ?_
  -- R0.2 4 := cache.go:80 nilCheck
  refine WL.v (by exact r_nilCheck rfl) rfl rfl rfl ?_
  -- R0.3 5 := cache.go:80 fieldAddr
  refine WL.v (by exact r_field ty_fld95_2 rfl) rfl rfl rfl ?_
  -- R0.4 6 := cache.go:80 load
  refine WL.v (by exact r_load1 ty_one2 rfl (by first | assumption | exact st.c0 (by first | decide | omega) | exact st.c1 (by first | decide | omega) | exact st.c2 (by first | decide | omega) | exact st.c3 (by first | decide | omega) | exact st.c4 (by first | decide | omega) | exact st.c5 (by first | decide | omega) | exact st.c6 (by first | decide | omega) | exact st.c7 (by first | decide | omega) | exact st.c8 (by first | decide | omega))) rfl rfl rfl ?_
  -- R0.5 7 := cache.go:80 nilCheck
  refine WL.v (by exact r_nilCheck rfl) rfl rfl rfl ?_
  -- R0.6 8 := cache.go:80 fieldAddr
  refine WL.v (by exact r_field ty_fld95_1 rfl) rfl rfl rfl ?_
  -- R0.7 None := cache.go:80 store
  first | refine WL.store (v := .int _ _) st ty_one2 rfl rfl rfl (by first | decide | omega) rfl rfl ?_ | refine WL.store (v := _) st ty_one2 rfl rfl rfl (by first | decide | omega) rfl rfl ?_ | refine WL.store (v := .int _ _) st.front1 ty_one2 rfl rfl rfl (by first | decide | omega) rfl rfl ?_ | refine WL.store (v := _) st.front1 ty_one2 rfl rfl rfl (by first | decide | omega) rfl rfl ?_ | refine WL.store (v := .int _ _) st.front2 ty_one2 rfl rfl rfl (by first | decide | omega) rfl rfl ?_ | refine WL.store (v := _) st.front2 ty_one2 rfl rfl rfl (by first | decide | omega) rfl rfl ?_ | refine WL.store (v := .int _ _) st.front3 ty_one2 rfl rfl rfl (by first | decide | omega) rfl rfl ?_ | refine WL.store (v := _) st.front3 ty_one2 rfl rfl rfl (by first | decide | omega) rfl rfl ?_ | refine WL.store (v := .int _ _) st.front4 ty_one2 rfl rfl rfl (by first | decide | omega) rfl rfl ?_ | refine WL.store (v := _) st.front4 ty_one2 rfl rfl rfl (by first | decide | omega) rfl rfl ?_ | refine WL.store (v := .int _ _) st.front5 ty_one2 rfl rfl rfl (by first | decide | omega) rfl rfl ?_ | refine WL.store (v := _) st.front5 ty_one2 rfl rfl rfl (by first | decide | omega) rfl rfl ?_ | refine WL.store (v := .int _ _) st.front6 ty_one2 rfl rfl rfl (by first | decide | omega) rfl rfl ?_ | refine WL.store (v := _) st.front6 ty_one2 rfl rfl rfl (by first | decide | omega) rfl rfl ?_ | refine WL.store (v := .int _ _) st.front7 ty_one2 rfl rfl rfl (by first | decide | omega) rfl rfl ?_ | refine WL.store (v := _) st.front7 ty_one2 rfl rfl rfl (by first | decide | omega) rfl rfl ?_ | refine WL.store (v := .int _ _) st.front8 ty_one2 rfl rfl rfl (by first | decide | omega) rfl rfl ?_ | refine WL.store (v := _) st.front8 ty_one2 rfl rfl rfl (by first | decide | omega) rfl rfl ?_
  intro w st
  refine WL.fin hK71 (fun _ _ h => h) ?_
  -- region 1
  refine WC.region ?_
  -- R1.0 9 := cache.go:81 move
  refine WL.v (by first | exact r_move (v := .pointer _) rfl | exact r_move rfl) rfl rfl rfl ?_
  -- R1.1 10 := cache.go:81 nilCheck
  refine WL.v (by exact r_nilCheck rfl) rfl rfl rfl ?_
  -- R1.2 11 := cache.go:81 fieldAddr
  refine WL.v (by exact r_field ty_fld95_4 rfl) rfl rfl rfl ?_
  -- R1.3 12 := cache.go:81 load
  refine WL.v (by exact r_load1 ty_one93 rfl (by first | assumption | exact st.c0 (by first | decide | omega) | exact st.c1 (by first | decide | omega) | exact st.c2 (by first | decide | omega) | exact st.c3 (by first | decide | omega) | exact st.c4 (by first | decide | omega) | exact st.c5 (by first | decide | omega) | exact st.c6 (by first | decide | omega) | exact st.c7 (by first | decide | omega) | exact st.c8 (by first | decide | omega))) rfl rfl rfl ?_
  -- R1.4 None := cache.go:81 call
  refine WL.clearI st.front3 ty_mp93 rfl rfl rfl ?_
  intro w st
  have st := st.back3
  refine WL.end0 Tryd.results63 (fun _ _ h => h) ?_
  have st := st_nrm (L' := dC m (dropD D)) rfl st
  exact ⟨_, rfl, st⟩
end Go.Proofs.Qxb6500837aDoor

