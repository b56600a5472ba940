import Derived.Test.Qxb6500835aW9
import Derived.Test.Qxb6500835aC6
set_option linter.unusedVariables false
set_option linter.unusedSimpArgs false
namespace Go.Proofs.Qxb6500835a
open Go.RowKit Go.E1 Go.Conv

set_option maxHeartbeats 1000000 in
theorem same_ok (a1 a2 : Option Addr) (n c1 c2 b1 o1 b2 o2 : Nat) (X : Nat → Pr) {w0 : World} {M : Nat → Prop} {L : List HI} {w : World} (hn : n ≤ 1000000000) (h1 : 0 < n → a1 = some ⟨b1, o1, none⟩) (h2 : 0 < n → a2 = some ⟨b2, o2, none⟩)
    (hrd : ∀ w', St w0 M L w' → LAt w' b1 o1 n X ∧ LAt w' b2 o2 n X) (st : St w0 M L w) :
    Calls Try.prog 7 #[.slice a1 n c1, .slice a2 n c2] w (Ret fun v w' => v = .bool true ∧ St w0 M L w') := by
  refine enter [.slice a1 n c1, .slice a2 n c2] Try.func7 rfl Try.ntmps7 rfl ?_
  show WC _ _ _ 26 [] [(0, .slice a1 n c1), (1, .slice a2 n c2)] _
  refine WC.seq fun K302 hK302 => ?_
  -- region 0
  refine WC.region ?_
  -- R0.0 4 := bench.go:478 assign
  refine WL.v (by first | exact r_assign (v := .bool _) rfl | exact r_assign rfl) rfl rfl rfl ?_
  refine WL.fin hK302 (fun _ _ h => h) ?_
  refine WC.seq fun K303 hK303 => ?_
  refine WC.seq fun K304 hK304 => ?_
  -- region 1
  refine WC.region ?_
  -- R1.0 6 := bench.go:479 move
  refine WL.v (by first | exact r_move (v := .slice _ _ _) rfl | exact r_move rfl) rfl rfl rfl ?_
  -- R1.1 7 := bench.go:479 call
  refine WL.v (by exact r_len ty_usl25 rfl) rfl rfl rfl ?_
  -- R1.2 8 := bench.go:479 move
  refine WL.v (by first | exact r_move (v := .slice _ _ _) rfl | exact r_move rfl) rfl rfl rfl ?_
  -- R1.3 9 := bench.go:479 call
  refine WL.v (by exact r_len ty_usl25 rfl) rfl rfl rfl ?_
  -- R1.4 10 := bench.go:479 binOp
  refine WL.v (by first | exact r_neq rfl rfl (decide_eq_true (by omega)) | exact r_neq rfl rfl (decide_eq_false (by omega)) | exact r_neq rfl rfl rfl) rfl rfl rfl ?_
  refine WL.fin hK304 (fun _ _ h => h) ?_
  refine WC.condF rfl rfl ?_
  refine WC.skipF hK303 (fun _ _ h => h) ?_
  refine WC.seq fun K305 hK305 => ?_
  refine WC.seq fun K306 hK306 => ?_
  -- region 3
  refine WC.region ?_
  -- R3.0 11 := bench.go:482 move
  refine WL.v (by first | exact r_move (v := .slice _ _ _) rfl | exact r_move rfl) rfl rfl rfl ?_
  -- R3.1 12 := bench.go:482 call
  refine WL.v (by exact r_len ty_usl25 rfl) rfl rfl rfl ?_
  -- R3.2 13 := bench.go:482 move
  refine WL.v (by first | exact r_move (v := .int _ _) rfl | exact r_move rfl) rfl rfl rfl ?_
  refine WL.fin hK306 (fun _ _ h => h) ?_
  refine WC.block ?_
  refine WC.loop (ι := Nat) (fun k => [(0, .slice a1 n c1), (1, .slice a2 n c2), (12, .int .i64 (n : Nat)), (13, .int .i64 (k : Nat))]) (fun k w' => k ≤ n ∧ St w0 M L w') (fun k => n - k) 0 ⟨Nat.zero_le _, st⟩ ?_ ?_
  · skip
    repeat (first | exact sub_nil _ | refine sub_cons rfl rfl ?_)
  rintro k w ⟨hk, st⟩ K1 hK1
  by_cases hlt : k < n
  · obtain rfl := h1 (by omega)
    obtain rfl := h2 (by omega)
    have r1 := fun w' (s : St w0 M L w') => (hrd w' s).1 k hlt
    have r2 := fun w' (s : St w0 M L w') => (hrd w' s).2 k hlt
    refine WC.seq fun K307 hK307 => ?_
    -- region 4
    refine WC.region ?_
    -- R4.0 14 := bench.go:482 binOp
    refine WL.v (by first | exact r_lss rfl rfl (decide_eq_true (by omega)) | exact r_lss rfl rfl (decide_eq_false (by omega)) | exact r_lss rfl rfl rfl) rfl rfl rfl ?_
    refine WL.fin hK307 (fun _ _ h => h) ?_
    refine WC.seq fun K308 hK308 => ?_
    refine WC.condT rfl rfl ?_
    refine WC.skipF hK308 (fun _ _ h => h) ?_
    refine WC.seq fun K309 hK309 => ?_
    refine WC.block ?_
    refine WC.seq fun K310 hK310 => ?_
    -- region 5
    refine WC.region ?_
    -- R5.0 15 := bench.go:482 move
    refine WL.v (by first | exact r_move (v := .int _ _) rfl | exact r_move rfl) rfl rfl rfl ?_
    -- R5.1 5 := bench.go:482 assign
    refine WL.v (by first | exact r_assign (v := .int _ _) rfl | exact r_assign rfl) rfl rfl rfl ?_
    refine WL.fin hK310 (fun _ _ h => h) ?_
    refine WC.seq fun K311 hK311 => ?_
    -- region 6 (draws)
    refine WC.quietS st ty_mixed (by kernel_rfl) fun Kq hKq => ?_
    -- R6.0 16 := bench.go:483 move
    refine QL.v (fun w st => by first | exact r_move (v := .slice _ _ _) rfl | exact r_move rfl) rfl rfl rfl ?_
    -- R6.1 17 := bench.go:483 move
    refine QL.v (fun w st => by first | exact r_move (v := .int _ _) rfl | exact r_move rfl) rfl rfl rfl ?_
    -- R6.2 18 := bench.go:483 indexAddr
    refine QL.v (fun w st => by exact r_indexS ty_sl25 rfl rfl rfl (by omega)) rfl rfl rfl ?_
    -- R6.3 19 := bench.go:483 load
    refine QL.v (fun w st => by exact r_loadL (vs := [_, _]) ty_agg63 rfl ⟨((r1 _ st).1), ((r1 _ st).2), trivial⟩) rfl rfl rfl ?_
    -- R6.4 20 := bench.go:483 move
    refine QL.v (fun w st => by first | exact r_move (v := .slice _ _ _) rfl | exact r_move rfl) rfl rfl rfl ?_
    -- R6.5 21 := bench.go:483 move
    refine QL.v (fun w st => by first | exact r_move (v := .int _ _) rfl | exact r_move rfl) rfl rfl rfl ?_
    -- R6.6 22 := bench.go:483 indexAddr
    refine QL.v (fun w st => by exact r_indexS ty_sl25 rfl rfl rfl (by omega)) rfl rfl rfl ?_
    -- R6.7 23 := bench.go:483 load
    refine QL.v (fun w st => by exact r_loadL (vs := [_, _]) ty_agg63 rfl ⟨((r2 _ st).1), ((r2 _ st).2), trivial⟩) rfl rfl rfl ?_
    -- R6.8 24 := bench.go:483 binOp
    refine QL.v (fun w st => by exact r_st2_neq (t := false) ty_st263 ty_eqg63 rfl rfl (by simp)) rfl rfl rfl ?_
    refine QL.wl hKq fun w st => ?_
    refine WL.fin hK311 (fun _ _ h => h) ?_
    refine WC.condF rfl rfl ?_
    refine WC.skipF hK309 (fun _ _ h => h) ?_
    -- region 8
    refine WC.region ?_
    -- R8.0 25 := bench.go:482 binOp
    refine WL.v (by first | exact r_add rfl rfl (wi64 (by omega) (by omega)) | exact r_add rfl rfl rfl) rfl rfl rfl ?_
    -- R8.1 13 := bench.go:482 move
    refine WL.v (by first | exact r_move (v := .int _ _) rfl | exact r_move rfl) rfl rfl rfl ?_
    refine WL.next hK1 (fun _ _ h => h) (k + 1) ⟨by omega, st⟩ (by show n - (k + 1) < n - k; omega) (by repeat (first | exact sub_nil _ | refine sub_cons rfl rfl ?_))
  · skip
    refine WC.seq fun K312 hK312 => ?_
    -- region 4
    refine WC.region ?_
    -- R4.0 14 := bench.go:482 binOp
    refine WL.v (by first | exact r_lss rfl rfl (decide_eq_true (by omega)) | exact r_lss rfl rfl (decide_eq_false (by omega)) | exact r_lss rfl rfl rfl) rfl rfl rfl ?_
    refine WL.fin hK312 (fun _ _ h => h) ?_
    refine WC.seq fun K313 hK313 => ?_
    refine WC.condF rfl rfl ?_
    refine WC.exitF hK305 (fun _ _ h => h) ?_
    refine WC.seq fun K314 hK314 => ?_
    -- region 9
    refine WC.region ?_
    -- R9.0 4 := bench.go:487 assign
    refine WL.v (by first | exact r_assign (v := .bool _) rfl | exact r_assign rfl) rfl rfl rfl ?_
    refine WL.fin hK314 (fun _ _ h => h) ?_
    refine WC.ret1 Try.results7 (fun _ _ h => h) rfl ?_
    exact ⟨_, rfl, rfl, st⟩

set_option maxHeartbeats 2000000 in
theorem equalGroups_ok (a1 a2 : Option Addr) (q c1 c2 g1 o1 g2 o2 : Nat) (I : Nat → Int) (db1 dO1 db2 dO2 dl dc1 dc2 : Nat → Nat) (D : Nat → Nat → Int) {w0 : World} {M : Nat → Prop} {L : List HI} {w : World} (hn : q ≤ 1000000000) (hdl : ∀ t, t < q → dl t ≤ 1000000000)
    (h1 : 0 < q → a1 = some ⟨g1, o1, none⟩) (h2 : 0 < q → a2 = some ⟨g2, o2, none⟩) (hrd : ∀ w', St w0 M L w' → GAt w' g1 o1 q I db1 dO1 dl dc1 D ∧ GAt w' g2 o2 q I db2 dO2 dl dc2 D) (st : St w0 M L w) :
    Calls Try.prog 8 #[.slice a1 q c1, .slice a2 q c2] w (Ret fun v w' => v = .bool true ∧ St w0 M L w') := by
  refine enter [.slice a1 q c1, .slice a2 q c2] Try.func8 rfl Try.ntmps8 rfl ?_
  show WC _ _ _ 71 [] [(0, .slice a1 q c1), (1, .slice a2 q c2)] _
  refine WC.seq fun K315 hK315 => ?_
  -- region 0
  refine WC.region ?_
  -- R0.0 4 := segment.go:181 assign
  refine WL.v (by first | exact r_assign (v := .bool _) rfl | exact r_assign rfl) rfl rfl rfl ?_
  refine WL.fin hK315 (fun _ _ h => h) ?_
  refine WC.seq fun K316 hK316 => ?_
  refine WC.seq fun K317 hK317 => ?_
  -- region 1
  refine WC.region ?_
  -- R1.0 7 := segment.go:182 move
  refine WL.v (by first | exact r_move (v := .slice _ _ _) rfl | exact r_move rfl) rfl rfl rfl ?_
  -- R1.1 8 := segment.go:182 call
  refine WL.v (by exact r_len ty_usl37 rfl) rfl rfl rfl ?_
  -- R1.2 9 := segment.go:182 move
  refine WL.v (by first | exact r_move (v := .slice _ _ _) rfl | exact r_move rfl) rfl rfl rfl ?_
  -- R1.3 10 := segment.go:182 call
  refine WL.v (by exact r_len ty_usl37 rfl) rfl rfl rfl ?_
  -- R1.4 11 := segment.go:182 binOp
  refine WL.v (by first | exact r_neq rfl rfl (decide_eq_true (by omega)) | exact r_neq rfl rfl (decide_eq_false (by omega)) | exact r_neq rfl rfl rfl) rfl rfl rfl ?_
  refine WL.fin hK317 (fun _ _ h => h) ?_
  refine WC.condF rfl rfl ?_
  refine WC.skipF hK316 (fun _ _ h => h) ?_
  refine WC.seq fun K318 hK318 => ?_
  refine WC.seq fun K319 hK319 => ?_
  -- region 3
  refine WC.region ?_
  -- R3.0 12 := segment.go:185 move
  refine WL.v (by first | exact r_move (v := .slice _ _ _) rfl | exact r_move rfl) rfl rfl rfl ?_
  -- R3.1 13 := segment.go:185 call
  refine WL.v (by exact r_len ty_usl37 rfl) rfl rfl rfl ?_
  -- R3.2 14 := segment.go:185 move
  refine WL.v (by first | exact r_move (v := .int _ _) rfl | exact r_move rfl) rfl rfl rfl ?_
  refine WL.fin hK319 (fun _ _ h => h) ?_
  refine WC.block ?_
  refine WC.loop (ι := Nat) (fun k => [(0, .slice a1 q c1), (1, .slice a2 q c2), (13, .int .i64 (q : Nat)), (14, .int .i64 (k : Nat))]) (fun k w' => k ≤ q ∧ St w0 M L w') (fun k => q - k) 0 ⟨Nat.zero_le _, st⟩ ?_ ?_
  · skip
    repeat (first | exact sub_nil _ | refine sub_cons rfl rfl ?_)
  rintro k w ⟨hk, st⟩ K1 hK1
  by_cases hlt : k < q
  · obtain rfl := h1 (by omega)
    obtain rfl := h2 (by omega)
    have r1 := fun w' (s : St w0 M L w') => (hrd w' s).1 k hlt
    have r2 := fun w' (s : St w0 M L w') => (hrd w' s).2 k hlt
    have hd := hdl k hlt
    refine WC.seq fun K320 hK320 => ?_
    -- region 4
    refine WC.region ?_
    -- R4.0 15 := segment.go:185 binOp
    refine WL.v (by first | exact r_lss rfl rfl (decide_eq_true (by omega)) | exact r_lss rfl rfl (decide_eq_false (by omega)) | exact r_lss rfl rfl rfl) rfl rfl rfl ?_
    refine WL.fin hK320 (fun _ _ h => h) ?_
    refine WC.seq fun K321 hK321 => ?_
    refine WC.condT rfl rfl ?_
    refine WC.skipF hK321 (fun _ _ h => h) ?_
    refine WC.seq fun K322 hK322 => ?_
    refine WC.block ?_
    refine WC.seq fun K323 hK323 => ?_
    -- region 5
    refine WC.region ?_
    -- R5.0 16 := segment.go:185 move
    refine WL.v (by first | exact r_move (v := .int _ _) rfl | exact r_move rfl) rfl rfl rfl ?_
    -- R5.1 5 := segment.go:185 assign
    refine WL.v (by first | exact r_assign (v := .int _ _) rfl | exact r_assign rfl) rfl rfl rfl ?_
    refine WL.fin hK323 (fun _ _ h => h) ?_
    refine WC.seq fun K324 hK324 => ?_
    refine WC.seq fun K325 hK325 => ?_
    -- region 6 (draws)
    refine WC.quietS st ty_mixed (by kernel_rfl) fun Kq hKq => ?_
    -- R6.0 17 := segment.go:186 move
    refine QL.v (fun w st => by first | exact r_move (v := .slice _ _ _) rfl | exact r_move rfl) rfl rfl rfl ?_
    -- R6.1 18 := segment.go:186 move
    refine QL.v (fun w st => by first | exact r_move (v := .int _ _) rfl | exact r_move rfl) rfl rfl rfl ?_
    -- R6.2 19 := segment.go:186 indexAddr
    refine QL.v (fun w st => by exact r_indexS ty_sl37 rfl rfl rfl (by omega)) rfl rfl rfl ?_
    -- R6.3 20 := segment.go:186 fieldAddr
    refine QL.v (fun w st => by exact r_field ty_fld60_0 rfl) rfl rfl rfl ?_
    -- R6.4 21 := segment.go:186 load
    refine QL.v (fun w st => by exact r_load1 ty_one5 rfl ((r1 _ st).1)) rfl rfl rfl ?_
    -- R6.5 22 := segment.go:186 move
    refine QL.v (fun w st => by first | exact r_move (v := .slice _ _ _) rfl | exact r_move rfl) rfl rfl rfl ?_
    -- R6.6 23 := segment.go:186 move
    refine QL.v (fun w st => by first | exact r_move (v := .int _ _) rfl | exact r_move rfl) rfl rfl rfl ?_
    -- R6.7 24 := segment.go:186 indexAddr
    refine QL.v (fun w st => by exact r_indexS ty_sl37 rfl rfl rfl (by omega)) rfl rfl rfl ?_
    -- R6.8 25 := segment.go:186 fieldAddr
    refine QL.v (fun w st => by exact r_field ty_fld60_0 rfl) rfl rfl rfl ?_
    -- R6.9 26 := segment.go:186 load
    refine QL.v (fun w st => by exact r_load1 ty_one5 rfl ((r2 _ st).1)) rfl rfl rfl ?_
    -- R6.10 27 := segment.go:186 binOp
    refine QL.v (fun w st => by first | exact r_neq rfl rfl (decide_eq_true (by omega)) | exact r_neq rfl rfl (decide_eq_false (by omega)) | exact r_neq rfl rfl rfl) rfl rfl rfl ?_
    -- R6.11 28 := segment.go:186 move
    refine QL.v (fun w st => by first | exact r_move (v := .bool _) rfl | exact r_move rfl) rfl rfl rfl ?_
    -- R6.12 29 := segment.go:186 move
    refine QL.v (fun w st => by first | exact r_move (v := .slice _ _ _) rfl | exact r_move rfl) rfl rfl rfl ?_
    -- R6.13 30 := segment.go:186 move
    refine QL.v (fun w st => by first | exact r_move (v := .int _ _) rfl | exact r_move rfl) rfl rfl rfl ?_
    -- R6.14 31 := segment.go:186 indexAddr
    refine QL.v (fun w st => by exact r_indexS ty_sl37 rfl rfl rfl (by omega)) rfl rfl rfl ?_
    -- R6.15 32 := segment.go:186 fieldAddr
    refine QL.v (fun w st => by exact r_field ty_fld60_1 rfl) rfl rfl rfl ?_
    -- R6.16 33 := segment.go:186 load
    refine QL.v (fun w st => by exact r_load1 ty_one58 rfl ((r1 _ st).2.1)) rfl rfl rfl ?_
    -- R6.17 34 := segment.go:186 call
    refine QL.v (fun w st => by exact r_len ty_usl58 rfl) rfl rfl rfl ?_
    -- R6.18 35 := segment.go:186 move
    refine QL.v (fun w st => by first | exact r_move (v := .slice _ _ _) rfl | exact r_move rfl) rfl rfl rfl ?_
    -- R6.19 36 := segment.go:186 move
    refine QL.v (fun w st => by first | exact r_move (v := .int _ _) rfl | exact r_move rfl) rfl rfl rfl ?_
    -- R6.20 37 := segment.go:186 indexAddr
    refine QL.v (fun w st => by exact r_indexS ty_sl37 rfl rfl rfl (by omega)) rfl rfl rfl ?_
    -- R6.21 38 := segment.go:186 fieldAddr
    refine QL.v (fun w st => by exact r_field ty_fld60_1 rfl) rfl rfl rfl ?_
    -- R6.22 39 := segment.go:186 load
    refine QL.v (fun w st => by exact r_load1 ty_one58 rfl ((r2 _ st).2.1)) rfl rfl rfl ?_
    -- R6.23 40 := segment.go:186 call
    refine QL.v (fun w st => by exact r_len ty_usl58 rfl) rfl rfl rfl ?_
    -- R6.24 41 := segment.go:186 binOp
    refine QL.v (fun w st => by first | exact r_neq rfl rfl (decide_eq_true (by omega)) | exact r_neq rfl rfl (decide_eq_false (by omega)) | exact r_neq rfl rfl rfl) rfl rfl rfl ?_
    -- R6.25 42 := segment.go:186 pick
    refine QL.v (fun w st => by first | exact r_pickT (v := .bool _) rfl rfl | exact r_pickF (v := .bool _) rfl rfl) rfl rfl rfl ?_
    refine QL.wl hKq fun w st => ?_
    refine WL.fin hK325 (fun _ _ h => h) ?_
    refine WC.condF rfl rfl ?_
    refine WC.skipF hK324 (fun _ _ h => h) ?_
    refine WC.seq fun K326 hK326 => ?_
    -- region 8
    refine WC.region ?_
    -- R8.0 43 := segment.go:189 move
    refine WL.v (by first | exact r_move (v := .slice _ _ _) rfl | exact r_move rfl) rfl rfl rfl ?_
    -- R8.1 44 := segment.go:189 move
    refine WL.v (by first | exact r_move (v := .int _ _) rfl | exact r_move rfl) rfl rfl rfl ?_
    -- R8.2 45 := segment.go:189 indexAddr
    refine WL.v (by exact r_indexS ty_sl37 rfl rfl rfl (by omega)) rfl rfl rfl ?_
    -- R8.3 46 := segment.go:189 fieldAddr
    refine WL.v (by exact r_field ty_fld60_1 rfl) rfl rfl rfl ?_
    -- R8.4 47 := segment.go:189 load
    refine WL.v (by exact r_load1 ty_one58 rfl ((r1 _ st).2.1)) rfl rfl rfl ?_
    -- R8.5 48 := segment.go:189 call
    refine WL.v (by exact r_len ty_usl58 rfl) rfl rfl rfl ?_
    -- R8.6 49 := segment.go:189 move
    refine WL.v (by first | exact r_move (v := .int _ _) rfl | exact r_move rfl) rfl rfl rfl ?_
    refine WL.fin hK326 (fun _ _ h => h) ?_
    refine WC.block ?_
    refine WC.loop (ι := Nat) (fun j => [(0, .slice (some ⟨g1, o1, none⟩) q c1), (1, .slice (some ⟨g2, o2, none⟩) q c2), (5, .int .i64 (k : Nat)), (13, .int .i64 (q : Nat)), (14, .int .i64 (k : Nat)), (48, .int .i64 (dl k : Nat)), (49, .int .i64 (j : Nat))]) (fun j w' => j ≤ dl k ∧ St w0 M L w') (fun j => dl k - j) 0 ⟨Nat.zero_le _, st⟩ ?_ ?_
    · skip
      repeat (first | exact sub_nil _ | refine sub_cons rfl rfl ?_)
    rintro j w ⟨hj, st⟩ K2 hK2
    by_cases hjl : j < dl k
    · skip
      refine WC.seq fun K327 hK327 => ?_
      -- region 9
      refine WC.region ?_
      -- R9.0 50 := segment.go:189 binOp
      refine WL.v (by first | exact r_lss rfl rfl (decide_eq_true (by omega)) | exact r_lss rfl rfl (decide_eq_false (by omega)) | exact r_lss rfl rfl rfl) rfl rfl rfl ?_
      refine WL.fin hK327 (fun _ _ h => h) ?_
      refine WC.seq fun K328 hK328 => ?_
      refine WC.condT rfl rfl ?_
      refine WC.skipF hK328 (fun _ _ h => h) ?_
      refine WC.seq fun K329 hK329 => ?_
      refine WC.block ?_
      refine WC.seq fun K330 hK330 => ?_
      -- region 10
      refine WC.region ?_
      -- R10.0 51 := segment.go:189 move
      refine WL.v (by first | exact r_move (v := .int _ _) rfl | exact r_move rfl) rfl rfl rfl ?_
      -- R10.1 6 := segment.go:189 assign
      refine WL.v (by first | exact r_assign (v := .int _ _) rfl | exact r_assign rfl) rfl rfl rfl ?_
      refine WL.fin hK330 (fun _ _ h => h) ?_
      refine WC.seq fun K331 hK331 => ?_
      -- region 11 (draws)
      refine WC.quietS st ty_mixed (by kernel_rfl) fun Kq hKq => ?_
      -- R11.0 52 := segment.go:190 move
      refine QL.v (fun w st => by first | exact r_move (v := .slice _ _ _) rfl | exact r_move rfl) rfl rfl rfl ?_
      -- R11.1 53 := segment.go:190 move
      refine QL.v (fun w st => by first | exact r_move (v := .int _ _) rfl | exact r_move rfl) rfl rfl rfl ?_
      -- R11.2 54 := segment.go:190 indexAddr
      refine QL.v (fun w st => by exact r_indexS ty_sl37 rfl rfl rfl (by omega)) rfl rfl rfl ?_
      -- R11.3 55 := segment.go:190 fieldAddr
      refine QL.v (fun w st => by exact r_field ty_fld60_1 rfl) rfl rfl rfl ?_
      -- R11.4 56 := segment.go:190 load
      refine QL.v (fun w st => by exact r_load1 ty_one58 rfl ((r1 _ st).2.1)) rfl rfl rfl ?_
      -- R11.5 57 := segment.go:190 move
      refine QL.v (fun w st => by first | exact r_move (v := .int _ _) rfl | exact r_move rfl) rfl rfl rfl ?_
      -- R11.6 58 := segment.go:190 indexAddr
      refine QL.v (fun w st => by exact r_indexS ty_sl58 rfl rfl rfl (by omega)) rfl rfl rfl ?_
      -- R11.7 59 := segment.go:190 load
      refine QL.v (fun w st => by exact r_load1 ty_one50 rfl ((r1 _ st).2.2 j hjl)) rfl rfl rfl ?_
      -- R11.8 60 := segment.go:190 move
      refine QL.v (fun w st => by first | exact r_move (v := .slice _ _ _) rfl | exact r_move rfl) rfl rfl rfl ?_
      -- R11.9 61 := segment.go:190 move
      refine QL.v (fun w st => by first | exact r_move (v := .int _ _) rfl | exact r_move rfl) rfl rfl rfl ?_
      -- R11.10 62 := segment.go:190 indexAddr
      refine QL.v (fun w st => by exact r_indexS ty_sl37 rfl rfl rfl (by omega)) rfl rfl rfl ?_
      -- R11.11 63 := segment.go:190 fieldAddr
      refine QL.v (fun w st => by exact r_field ty_fld60_1 rfl) rfl rfl rfl ?_
      -- R11.12 64 := segment.go:190 load
      refine QL.v (fun w st => by exact r_load1 ty_one58 rfl ((r2 _ st).2.1)) rfl rfl rfl ?_
      -- R11.13 65 := segment.go:190 move
      refine QL.v (fun w st => by first | exact r_move (v := .int _ _) rfl | exact r_move rfl) rfl rfl rfl ?_
      -- R11.14 66 := segment.go:190 indexAddr
      refine QL.v (fun w st => by exact r_indexS ty_sl58 rfl rfl rfl (by omega)) rfl rfl rfl ?_
      -- R11.15 67 := segment.go:190 load
      refine QL.v (fun w st => by exact r_load1 ty_one50 rfl ((r2 _ st).2.2 j hjl)) rfl rfl rfl ?_
      -- R11.16 68 := segment.go:190 binOp
      refine QL.v (fun w st => by first | exact r_neq rfl rfl (decide_eq_true (by omega)) | exact r_neq rfl rfl (decide_eq_false (by omega)) | exact r_neq rfl rfl rfl) rfl rfl rfl ?_
      refine QL.wl hKq fun w st => ?_
      refine WL.fin hK331 (fun _ _ h => h) ?_
      refine WC.condF rfl rfl ?_
      refine WC.skipF hK329 (fun _ _ h => h) ?_
      -- region 13
      refine WC.region ?_
      -- R13.0 69 := segment.go:189 binOp
      refine WL.v (by first | exact r_add rfl rfl (wi64 (by omega) (by omega)) | exact r_add rfl rfl rfl) rfl rfl rfl ?_
      -- R13.1 49 := segment.go:189 move
      refine WL.v (by first | exact r_move (v := .int _ _) rfl | exact r_move rfl) rfl rfl rfl ?_
      refine WL.next hK2 (fun _ _ h => h) (j + 1) ⟨by omega, st⟩ (by show dl k - (j + 1) < dl k - j; omega) (by repeat (first | exact sub_nil _ | refine sub_cons rfl rfl ?_))
    · skip
      refine WC.seq fun K332 hK332 => ?_
      -- region 9
      refine WC.region ?_
      -- R9.0 50 := segment.go:189 binOp
      refine WL.v (by first | exact r_lss rfl rfl (decide_eq_true (by omega)) | exact r_lss rfl rfl (decide_eq_false (by omega)) | exact r_lss rfl rfl rfl) rfl rfl rfl ?_
      refine WL.fin hK332 (fun _ _ h => h) ?_
      refine WC.seq fun K333 hK333 => ?_
      refine WC.condF rfl rfl ?_
      refine WC.exitF hK322 (fun _ _ h => h) ?_
      -- region 14
      refine WC.region ?_
      -- R14.0 70 := segment.go:185 binOp
      refine WL.v (by first | exact r_add rfl rfl (wi64 (by omega) (by omega)) | exact r_add rfl rfl rfl) rfl rfl rfl ?_
      -- R14.1 14 := segment.go:185 move
      refine WL.v (by first | exact r_move (v := .int _ _) rfl | exact r_move rfl) rfl rfl rfl ?_
      refine WL.next hK1 (fun _ _ h => h) (k + 1) ⟨by omega, st⟩ (by show q - (k + 1) < q - k; omega) (by repeat (first | exact sub_nil _ | refine sub_cons rfl rfl ?_))
  · skip
    refine WC.seq fun K334 hK334 => ?_
    -- region 4
    refine WC.region ?_
    -- R4.0 15 := segment.go:185 binOp
    refine WL.v (by first | exact r_lss rfl rfl (decide_eq_true (by omega)) | exact r_lss rfl rfl (decide_eq_false (by omega)) | exact r_lss rfl rfl rfl) rfl rfl rfl ?_
    refine WL.fin hK334 (fun _ _ h => h) ?_
    refine WC.seq fun K335 hK335 => ?_
    refine WC.condF rfl rfl ?_
    refine WC.exitF hK318 (fun _ _ h => h) ?_
    refine WC.seq fun K336 hK336 => ?_
    -- region 15
    refine WC.region ?_
    -- R15.0 4 := segment.go:195 assign
    refine WL.v (by first | exact r_assign (v := .bool _) rfl | exact r_assign rfl) rfl rfl rfl ?_
    refine WL.fin hK336 (fun _ _ h => h) ?_
    refine WC.ret1 Try.results8 (fun _ _ h => h) rfl ?_
    exact ⟨_, rfl, rfl, st⟩
end Go.Proofs.Qxb6500835a

