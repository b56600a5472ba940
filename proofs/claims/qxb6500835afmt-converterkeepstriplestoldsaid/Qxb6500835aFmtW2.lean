import Derived.Test.Qxb6500835aFmtW1
set_option linter.unusedVariables false
set_option linter.unusedSimpArgs false
namespace Go.Proofs.Qxb6500835aFmt
open Go.RowKit Go.E1 Go.Conv

/-- Groups in memory, by their addresses. -/
def GAt (w : World) (g o n : Nat) (I : Nat → Int) (db dO dl dc : Nat → Nat) (X : Nat → Nat → Int) : Prop :=
  ∀ i, i < n → w.cell? ⟨g, o + i * 2, none⟩ = some (.int .u8 (I i)) ∧ w.cell? ⟨g, o + i * 2 + 1, none⟩ = some (.slice (some ⟨db i, dO i, none⟩) (dl i) (dc i)) ∧
    ∀ j, j < dl i → w.cell? ⟨db i, dO i + j * 1, none⟩ = some (.int .u32 (X i j))

set_option maxHeartbeats 1000000 in
theorem impactOrdered_ok (a : Option Addr) (g o n c : Nat) (I : Nat → Int) (db dO dl dc : Nat → Nat) (X : Nat → Nat → Int) {w0 : World} {M : Nat → Prop} {L : List HI} {w : World}
    (hn : n ≤ 1000000000) (hdl : ∀ i, i < n → 0 < dl i ∧ dl i ≤ 1000000000) (ha : 0 < n → a = some ⟨g, o, none⟩)
    (hrd : ∀ its w', St w0 M (its ++ L) w' → GAt w' g o n I db dO dl dc X)
    (hord : ∀ i, i < n → 0 < i → I i < I (i - 1)) (hdoc : ∀ i, i < n → ∀ j, 0 < j → j < dl i → X i (j - 1) < X i j) (st : St w0 M L w) :
    Calls Tryf.prog 6 #[.slice a n c] w (Ret fun v w' => v = .bool true ∧ St w0 M L w') := by
  refine enter [.slice a n c] Tryf.func6 rfl Tryf.ntmps6 rfl ?_
  show WC _ _ _ 52 [] [(0, .slice a n c)] _
  refine WC.seq fun K3 hK3 => ?_
  -- region 0
  refine WC.region ?_
  -- R0.0 2 := law.go:150 assign
  refine WL.v (by first | exact r_assign (v := .bool _) rfl | exact r_assign rfl) rfl rfl rfl ?_
  refine WL.fin hK3 (fun _ _ h => h) ?_
  refine WC.seq fun K4 hK4 => ?_
  refine WC.seq fun K5 hK5 => ?_
  -- region 1
  refine WC.region ?_
  -- R1.0 6 := law.go:151 move
  refine WL.v (by first | exact r_move (v := .slice _ _ _) rfl | exact r_move rfl) rfl rfl rfl ?_
  -- R1.1 7 := law.go:151 call
  refine WL.v (by exact r_len ty_usl39 rfl) rfl rfl rfl ?_
  -- R1.2 8 := law.go:151 move
  refine WL.v (by first | exact r_move (v := .int _ _) rfl | exact r_move rfl) rfl rfl rfl ?_
  refine WL.fin hK5 (fun _ _ h => h) ?_
  refine WC.block ?_
  refine WC.loop (ι := Nat) (fun k => [(0, .slice a n c), (6, .slice a n c), (7, .int .i64 n), (8, .int .i64 k)]) (fun k w' => k ≤ n ∧ St w0 M L w') (fun k => n - k) 0 ⟨by omega, st⟩ ?_ ?_
  · skip
    repeat (first | exact sub_nil _ | refine sub_cons rfl rfl ?_)
  · intro k w ⟨hk, st⟩ KL hKL
    by_cases hlt : k < n
    · obtain rfl := ha (by omega)
      obtain ⟨h1, h2⟩ := hdl k hlt
      have hr := hrd [] _ st k hlt
      refine WC.seq fun K6 hK6 => ?_
      -- region 2
      refine WC.region ?_
      -- R2.0 9 := law.go:151 binOp
      refine WL.v (by first | exact r_lss rfl rfl (decide_eq_true (by omega)) | exact r_lss rfl rfl (decide_eq_false (by omega)) | exact r_lss rfl rfl rfl) rfl rfl rfl ?_
      refine WL.fin hK6 (fun _ _ h => h) ?_
      refine WC.seq fun K7 hK7 => ?_
      refine WC.condT rfl rfl ?_
      refine WC.skipF hK7 (fun _ _ h => h) ?_
      refine WC.seq fun K8 hK8 => ?_
      refine WC.block ?_
      refine WC.seq fun K9 hK9 => ?_
      -- region 3
      refine WC.region ?_
      -- R3.0 10 := law.go:151 move
      refine WL.v (by first | exact r_move (v := .int _ _) rfl | exact r_move rfl) rfl rfl rfl ?_
      -- R3.1 11 := law.go:151 indexAddr
      refine WL.v (by exact r_indexS ty_sl39 rfl rfl rfl (by omega)) rfl rfl rfl ?_
      -- R3.2 12 := law.go:151 load
      refine WL.v (by exact r_loadL (vs := [_, _]) ty_agg55 rfl ⟨(hr.1), (hr.2.1), trivial⟩) rfl rfl rfl ?_
      -- R3.3 4 := law.go:151 alloc
      refine WL.alloc st ty_zero55 rfl rfl rfl ?_
      intro b4 w st
      -- R3.4 3 := law.go:151 assign
      refine WL.v (by first | exact r_assign (v := .int _ _) rfl | exact r_assign rfl) rfl rfl rfl ?_
      -- R3.5 None := law.go:151 store
      first | refine WL.storeW (vs := [_, _]) st ty_agg55 rfl rfl rfl rfl rfl rfl ?_ | refine WL.storeL (vs := [_, _]) st ty_agg55 rfl rfl rfl rfl (by first | decide | omega) rfl rfl ?_ | refine WL.storeW (vs := [_, _]) st.front1 ty_agg55 rfl rfl rfl rfl rfl rfl ?_ | refine WL.storeL (vs := [_, _]) st.front1 ty_agg55 rfl rfl rfl rfl (by first | decide | omega) rfl rfl ?_ | refine WL.storeW (vs := [_, _]) st.front2 ty_agg55 rfl rfl rfl rfl rfl rfl ?_ | refine WL.storeL (vs := [_, _]) st.front2 ty_agg55 rfl rfl rfl rfl (by first | decide | omega) rfl rfl ?_ | refine WL.storeW (vs := [_, _]) st.front3 ty_agg55 rfl rfl rfl rfl rfl rfl ?_ | refine WL.storeL (vs := [_, _]) st.front3 ty_agg55 rfl rfl rfl rfl (by first | decide | omega) rfl rfl ?_ | refine WL.storeW (vs := [_, _]) st.front4 ty_agg55 rfl rfl rfl rfl rfl rfl ?_ | refine WL.storeL (vs := [_, _]) st.front4 ty_agg55 rfl rfl rfl rfl (by first | decide | omega) rfl rfl ?_ | refine WL.storeW (vs := [_, _]) st.front5 ty_agg55 rfl rfl rfl rfl rfl rfl ?_ | refine WL.storeL (vs := [_, _]) st.front5 ty_agg55 rfl rfl rfl rfl (by first | decide | omega) rfl rfl ?_ | refine WL.storeW (vs := [_, _]) st.front6 ty_agg55 rfl rfl rfl rfl rfl rfl ?_ | refine WL.storeL (vs := [_, _]) st.front6 ty_agg55 rfl rfl rfl rfl (by first | decide | omega) rfl rfl ?_ | refine WL.storeW (vs := [_, _]) st.front7 ty_agg55 rfl rfl rfl rfl rfl rfl ?_ | refine WL.storeL (vs := [_, _]) st.front7 ty_agg55 rfl rfl rfl rfl (by first | decide | omega) rfl rfl ?_ | refine WL.storeW (vs := [_, _]) st.front8 ty_agg55 rfl rfl rfl rfl rfl rfl ?_ | refine WL.storeL (vs := [_, _]) st.front8 ty_agg55 rfl rfl rfl rfl (by first | decide | omega) rfl rfl ?_
      intro w st
      refine WL.fin hK9 (fun _ _ h => h) ?_
      refine WC.cut (ι := Unit) (fun _ => [(0, .slice (some ⟨g, o, none⟩) n c), (6, .slice (some ⟨g, o, none⟩) n c), (7, .int .i64 n), (8, .int .i64 k), (4, .pointer (some ⟨b4, 0, none⟩))])
        (fun _ w' => St w0 M ((b4, Row 55 2 (nth [.int .u8 (I k), .slice (some ⟨db k, dO k, none⟩) (dl k) (dc k)])) :: L) w') ?_ ?_
      · rintro ⟨⟩ w st
        refine WC.seq fun K10 hK10 => ?_
        -- region 6
        refine WC.region ?_
        -- R6.0 5 := law.go:155 assign
        refine WL.v (by first | exact r_assign (v := .int _ _) rfl | exact r_assign rfl) rfl rfl rfl ?_
        refine WL.fin hK10 (fun _ _ h => h) ?_
        refine WC.block ?_
        refine WC.loop (ι := Nat) (fun j => [(0, .slice (some ⟨g, o, none⟩) n c), (6, .slice (some ⟨g, o, none⟩) n c), (7, .int .i64 n), (8, .int .i64 k), (4, .pointer (some ⟨b4, 0, none⟩)), (5, .int .i64 j)])
          (fun j w' => 1 ≤ j ∧ j ≤ dl k ∧ St w0 M ((b4, Row 55 2 (nth [.int .u8 (I k), .slice (some ⟨db k, dO k, none⟩) (dl k) (dc k)])) :: L) w') (fun j => dl k - j) 1 ⟨by omega, by omega, st⟩ ?_ ?_
        · skip
          repeat (first | exact sub_nil _ | refine sub_cons rfl rfl ?_)
        · rintro j w ⟨hj1, hj2, st⟩ KJ hKJ
          by_cases hjl : j < dl k
          · have hx := hdoc k hlt j (by omega) hjl
            have hc0 := fun w' (s' : St w0 M ((b4, Row 55 2 (nth [.int .u8 (I k), .slice (some ⟨db k, dO k, none⟩) (dl k) (dc k)])) :: L) w') => (hrd [_] _ s' k hlt).2.2
            refine WC.seq fun K11 hK11 => ?_
            refine WC.seq fun K12 hK12 => ?_
            -- region 7
            refine WC.region ?_
            -- R7.0 32 := law.go:155 move
            refine WL.v (by first | exact r_move (v := .int _ _) rfl | exact r_move rfl) rfl rfl rfl ?_
            -- R7.1 33 := law.go:155 fieldAddr
            refine WL.v (by exact r_field ty_fld55_1 rfl) rfl rfl rfl ?_
            -- R7.2 34 := law.go:155 load
            refine WL.v (by exact r_load1 ty_one53 rfl (by first | assumption | exact st.c0 (by first | decide | omega) | exact st.c1 (by first | decide | omega) | exact st.c2 (by first | decide | omega) | exact st.c3 (by first | decide | omega) | exact st.c4 (by first | decide | omega) | exact st.c5 (by first | decide | omega) | exact st.c6 (by first | decide | omega) | exact st.c7 (by first | decide | omega) | exact st.c8 (by first | decide | omega))) rfl rfl rfl ?_
            -- R7.3 35 := law.go:155 call
            refine WL.v (by exact r_len ty_usl53 rfl) rfl rfl rfl ?_
            -- R7.4 36 := law.go:155 binOp
            refine WL.v (by first | exact r_lss rfl rfl (decide_eq_true (by omega)) | exact r_lss rfl rfl (decide_eq_false (by omega)) | exact r_lss rfl rfl rfl) rfl rfl rfl ?_
            refine WL.fin hK12 (fun _ _ h => h) ?_
            refine WC.condT rfl rfl ?_
            refine WC.skipF hK11 (fun _ _ h => h) ?_
            refine WC.seq fun K13 hK13 => ?_
            refine WC.block ?_
            refine WC.seq fun K14 hK14 => ?_
            -- region 9 (draws)
            refine WC.quietS st ty_mixed (by kernel_rfl) fun Kq hKq => ?_
            -- R9.0 39 := law.go:156 fieldAddr
            refine QL.v (fun w st => by exact r_field ty_fld55_1 rfl) rfl rfl rfl ?_
            -- R9.1 40 := law.go:156 load
            refine QL.v (fun w st => by exact r_load1 ty_one53 rfl (by first | assumption | exact st.c0 (by first | decide | omega) | exact st.c1 (by first | decide | omega) | exact st.c2 (by first | decide | omega) | exact st.c3 (by first | decide | omega) | exact st.c4 (by first | decide | omega) | exact st.c5 (by first | decide | omega) | exact st.c6 (by first | decide | omega) | exact st.c7 (by first | decide | omega) | exact st.c8 (by first | decide | omega))) rfl rfl rfl ?_
            -- R9.2 41 := law.go:156 move
            refine QL.v (fun w st => by first | exact r_move (v := .int _ _) rfl | exact r_move rfl) rfl rfl rfl ?_
            -- R9.3 42 := law.go:156 binOp
            refine QL.v (fun w st => by first | exact r_sub rfl rfl (wi64 (by omega) (by omega)) | exact r_sub rfl rfl rfl) rfl rfl rfl ?_
            -- R9.4 43 := law.go:156 indexAddr
            refine QL.v (fun w st => by exact r_indexS (j := j - 1) ty_sl53 rfl rfl (by omega) (by omega)) rfl rfl rfl ?_
            -- R9.5 44 := law.go:156 load
            refine QL.v (fun w st => by exact r_load1 ty_one44 rfl (hc0 w st (j - 1) (by omega))) rfl rfl rfl ?_
            -- R9.6 45 := law.go:156 fieldAddr
            refine QL.v (fun w st => by exact r_field ty_fld55_1 rfl) rfl rfl rfl ?_
            -- R9.7 46 := law.go:156 load
            refine QL.v (fun w st => by exact r_load1 ty_one53 rfl (by first | assumption | exact st.c0 (by first | decide | omega) | exact st.c1 (by first | decide | omega) | exact st.c2 (by first | decide | omega) | exact st.c3 (by first | decide | omega) | exact st.c4 (by first | decide | omega) | exact st.c5 (by first | decide | omega) | exact st.c6 (by first | decide | omega) | exact st.c7 (by first | decide | omega) | exact st.c8 (by first | decide | omega))) rfl rfl rfl ?_
            -- R9.8 47 := law.go:156 move
            refine QL.v (fun w st => by first | exact r_move (v := .int _ _) rfl | exact r_move rfl) rfl rfl rfl ?_
            -- R9.9 48 := law.go:156 indexAddr
            refine QL.v (fun w st => by exact r_indexS ty_sl53 rfl rfl rfl (by omega)) rfl rfl rfl ?_
            -- R9.10 49 := law.go:156 load
            refine QL.v (fun w st => by exact r_load1 ty_one44 rfl (hc0 w st j hjl)) rfl rfl rfl ?_
            -- R9.11 50 := law.go:156 binOp
            refine QL.v (fun w st => by first | exact r_geq rfl rfl (decide_eq_true (by omega)) | exact r_geq rfl rfl (decide_eq_false (by omega)) | exact r_geq rfl rfl rfl) rfl rfl rfl ?_
            refine QL.wl hKq fun w st => ?_
            refine WL.fin hK14 (fun _ _ h => h) ?_
            refine WC.condF rfl rfl ?_
            refine WC.skipF hK13 (fun _ _ h => h) ?_
            -- region 8
            refine WC.region ?_
            -- R8.0 37 := law.go:155 move
            refine WL.v (by first | exact r_move (v := .int _ _) rfl | exact r_move rfl) rfl rfl rfl ?_
            -- R8.1 38 := law.go:155 binOp
            refine WL.v (by first | exact r_add rfl rfl (wi64 (by omega) (by omega)) | exact r_add rfl rfl rfl) rfl rfl rfl ?_
            -- R8.2 5 := law.go:155 assign
            refine WL.v (by first | exact r_assign (v := .int _ _) rfl | exact r_assign rfl) rfl rfl rfl ?_
            refine WL.next hKJ (fun _ _ h => h) (j + 1) ⟨by omega, by omega, st⟩ (by show dl k - (j + 1) < dl k - j; omega) (by repeat (first | exact sub_nil _ | refine sub_cons rfl rfl ?_))
          · skip
            refine WC.seq fun K15 hK15 => ?_
            refine WC.seq fun K16 hK16 => ?_
            -- region 7
            refine WC.region ?_
            -- R7.0 32 := law.go:155 move
            refine WL.v (by first | exact r_move (v := .int _ _) rfl | exact r_move rfl) rfl rfl rfl ?_
            -- R7.1 33 := law.go:155 fieldAddr
            refine WL.v (by exact r_field ty_fld55_1 rfl) rfl rfl rfl ?_
            -- R7.2 34 := law.go:155 load
            refine WL.v (by exact r_load1 ty_one53 rfl (by first | assumption | exact st.c0 (by first | decide | omega) | exact st.c1 (by first | decide | omega) | exact st.c2 (by first | decide | omega) | exact st.c3 (by first | decide | omega) | exact st.c4 (by first | decide | omega) | exact st.c5 (by first | decide | omega) | exact st.c6 (by first | decide | omega) | exact st.c7 (by first | decide | omega) | exact st.c8 (by first | decide | omega))) rfl rfl rfl ?_
            -- R7.3 35 := law.go:155 call
            refine WL.v (by exact r_len ty_usl53 rfl) rfl rfl rfl ?_
            -- R7.4 36 := law.go:155 binOp
            refine WL.v (by first | exact r_lss rfl rfl (decide_eq_true (by omega)) | exact r_lss rfl rfl (decide_eq_false (by omega)) | exact r_lss rfl rfl rfl) rfl rfl rfl ?_
            refine WL.fin hK16 (fun _ _ h => h) ?_
            refine WC.condF rfl rfl ?_
            refine WC.exitF hK8 (fun _ _ h => h) ?_
            -- region 11
            refine WC.region ?_
            -- R11.0 51 := law.go:151 binOp
            refine WL.v (by first | exact r_add rfl rfl (wi64 (by omega) (by omega)) | exact r_add rfl rfl rfl) rfl rfl rfl ?_
            -- R11.1 8 := law.go:151 move
            refine WL.v (by first | exact r_move (v := .int _ _) rfl | exact r_move rfl) rfl rfl rfl ?_
            refine WL.next hKL (fun _ _ h => h) (k + 1) ⟨by omega, st.drop⟩ (by show n - (k + 1) < n - k; omega) (by repeat (first | exact sub_nil _ | refine sub_cons rfl rfl ?_))
      · intro KC hKC
        by_cases hk0 : k = 0
        · skip
          refine WC.seq fun K17 hK17 => ?_
          -- region 4 (draws)
          refine WC.quietS st ty_mixed (by kernel_rfl) fun Kq hKq => ?_
          -- R4.0 13 := law.go:152 fieldAddr
          refine QL.v (fun w st => by exact r_field ty_fld55_1 rfl) rfl rfl rfl ?_
          -- R4.1 14 := law.go:152 load
          refine QL.v (fun w st => by exact r_load1 ty_one53 rfl (by first | assumption | exact st.c0 (by first | decide | omega) | exact st.c1 (by first | decide | omega) | exact st.c2 (by first | decide | omega) | exact st.c3 (by first | decide | omega) | exact st.c4 (by first | decide | omega) | exact st.c5 (by first | decide | omega) | exact st.c6 (by first | decide | omega) | exact st.c7 (by first | decide | omega) | exact st.c8 (by first | decide | omega))) rfl rfl rfl ?_
          -- R4.2 15 := law.go:152 call
          refine QL.v (fun w st => by exact r_len ty_usl53 rfl) rfl rfl rfl ?_
          -- R4.3 16 := law.go:152 binOp
          refine QL.v (fun w st => by first | exact r_eql rfl rfl (decide_eq_true (by omega)) | exact r_eql rfl rfl (decide_eq_false (by omega)) | exact r_eql rfl rfl rfl) rfl rfl rfl ?_
          -- R4.4 17 := law.go:152 move
          refine QL.v (fun w st => by first | exact r_move (v := .bool _) rfl | exact r_move rfl) rfl rfl rfl ?_
          -- R4.5 18 := law.go:152 move
          refine QL.v (fun w st => by first | exact r_move (v := .int _ _) rfl | exact r_move rfl) rfl rfl rfl ?_
          -- R4.6 19 := law.go:152 binOp
          refine QL.v (fun w st => by first | exact r_gtr rfl rfl (decide_eq_true (by omega)) | exact r_gtr rfl rfl (decide_eq_false (by omega)) | exact r_gtr rfl rfl rfl) rfl rfl rfl ?_
          -- R4.7 20 := law.go:152 move
          refine QL.v (fun w st => by first | exact r_move (v := .bool _) rfl | exact r_move rfl) rfl rfl rfl ?_
          -- R4.8 21 := law.go:152 move
          refine QL.no rfl rfl ?_
          -- R4.9 22 := law.go:152 move
          refine QL.no rfl rfl ?_
          -- R4.10 23 := law.go:152 binOp
          refine QL.no rfl rfl ?_
          -- R4.11 24 := law.go:152 indexAddr
          refine QL.no rfl rfl ?_
          -- R4.12 25 := law.go:152 fieldAddr
          refine QL.no rfl rfl ?_
          -- R4.13 26 := law.go:152 load
          refine QL.no rfl rfl ?_
          -- R4.14 27 := law.go:152 fieldAddr
          refine QL.no rfl rfl ?_
          -- R4.15 28 := law.go:152 load
          refine QL.no rfl rfl ?_
          -- R4.16 29 := law.go:152 binOp
          refine QL.no rfl rfl ?_
          -- R4.17 30 := law.go:152 pick
          refine QL.v (fun w st => by first | exact r_pickT (v := .bool _) rfl rfl | exact r_pickF (v := .bool _) rfl rfl) rfl rfl rfl ?_
          -- R4.18 31 := law.go:152 pick
          refine QL.v (fun w st => by first | exact r_pickT (v := .bool _) rfl rfl | exact r_pickF (v := .bool _) rfl rfl) rfl rfl rfl ?_
          refine QL.wl hKq fun w st => ?_
          refine WL.fin hK17 (fun _ _ h => h) ?_
          refine WC.condF rfl rfl ?_
          refine WC.skipJ hKC (fun _ _ h => h) () st (by repeat (first | exact sub_nil _ | refine sub_cons rfl rfl ?_))
        · have hI := hord k hlt (by omega)
          have hr1 := fun w' (s' : St w0 M ((b4, Row 55 2 (nth [.int .u8 (I k), .slice (some ⟨db k, dO k, none⟩) (dl k) (dc k)])) :: L) w') => (hrd [_] _ s' (k - 1) (by omega)).1
          refine WC.seq fun K18 hK18 => ?_
          -- region 4 (draws)
          refine WC.quietS st ty_mixed (by kernel_rfl) fun Kq hKq => ?_
          -- R4.0 13 := law.go:152 fieldAddr
          refine QL.v (fun w st => by exact r_field ty_fld55_1 rfl) rfl rfl rfl ?_
          -- R4.1 14 := law.go:152 load
          refine QL.v (fun w st => by exact r_load1 ty_one53 rfl (by first | assumption | exact st.c0 (by first | decide | omega) | exact st.c1 (by first | decide | omega) | exact st.c2 (by first | decide | omega) | exact st.c3 (by first | decide | omega) | exact st.c4 (by first | decide | omega) | exact st.c5 (by first | decide | omega) | exact st.c6 (by first | decide | omega) | exact st.c7 (by first | decide | omega) | exact st.c8 (by first | decide | omega))) rfl rfl rfl ?_
          -- R4.2 15 := law.go:152 call
          refine QL.v (fun w st => by exact r_len ty_usl53 rfl) rfl rfl rfl ?_
          -- R4.3 16 := law.go:152 binOp
          refine QL.v (fun w st => by first | exact r_eql rfl rfl (decide_eq_true (by omega)) | exact r_eql rfl rfl (decide_eq_false (by omega)) | exact r_eql rfl rfl rfl) rfl rfl rfl ?_
          -- R4.4 17 := law.go:152 move
          refine QL.v (fun w st => by first | exact r_move (v := .bool _) rfl | exact r_move rfl) rfl rfl rfl ?_
          -- R4.5 18 := law.go:152 move
          refine QL.v (fun w st => by first | exact r_move (v := .int _ _) rfl | exact r_move rfl) rfl rfl rfl ?_
          -- R4.6 19 := law.go:152 binOp
          refine QL.v (fun w st => by first | exact r_gtr rfl rfl (decide_eq_true (by omega)) | exact r_gtr rfl rfl (decide_eq_false (by omega)) | exact r_gtr rfl rfl rfl) rfl rfl rfl ?_
          -- R4.7 20 := law.go:152 move
          refine QL.v (fun w st => by first | exact r_move (v := .bool _) rfl | exact r_move rfl) rfl rfl rfl ?_
          -- R4.8 21 := law.go:152 move
          refine QL.v (fun w st => by first | exact r_move (v := .slice _ _ _) rfl | exact r_move rfl) rfl rfl rfl ?_
          -- R4.9 22 := law.go:152 move
          refine QL.v (fun w st => by first | exact r_move (v := .int _ _) rfl | exact r_move rfl) rfl rfl rfl ?_
          -- R4.10 23 := law.go:152 binOp
          refine QL.v (fun w st => by first | exact r_sub rfl rfl (wi64 (by omega) (by omega)) | exact r_sub rfl rfl rfl) rfl rfl rfl ?_
          -- R4.11 24 := law.go:152 indexAddr
          refine QL.v (fun w st => by exact r_indexS (j := k - 1) ty_sl39 rfl rfl (by omega) (by omega)) rfl rfl rfl ?_
          -- R4.12 25 := law.go:152 fieldAddr
          refine QL.v (fun w st => by exact r_field ty_fld55_0 rfl) rfl rfl rfl ?_
          -- R4.13 26 := law.go:152 load
          refine QL.v (fun w st => by exact r_load1 ty_one5 rfl (hr1 w st)) rfl rfl rfl ?_
          -- R4.14 27 := law.go:152 fieldAddr
          refine QL.v (fun w st => by exact r_field ty_fld55_0 rfl) rfl rfl rfl ?_
          -- R4.15 28 := law.go:152 load
          refine QL.v (fun w st => by exact r_load1 ty_one5 rfl (by first | assumption | exact st.c0 (by first | decide | omega) | exact st.c1 (by first | decide | omega) | exact st.c2 (by first | decide | omega) | exact st.c3 (by first | decide | omega) | exact st.c4 (by first | decide | omega) | exact st.c5 (by first | decide | omega) | exact st.c6 (by first | decide | omega) | exact st.c7 (by first | decide | omega) | exact st.c8 (by first | decide | omega))) rfl rfl rfl ?_
          -- R4.16 29 := law.go:152 binOp
          refine QL.v (fun w st => by first | exact r_leq rfl rfl (decide_eq_true (by omega)) | exact r_leq rfl rfl (decide_eq_false (by omega)) | exact r_leq rfl rfl rfl) rfl rfl rfl ?_
          -- R4.17 30 := law.go:152 pick
          refine QL.v (fun w st => by first | exact r_pickT (v := .bool _) rfl rfl | exact r_pickF (v := .bool _) rfl rfl) rfl rfl rfl ?_
          -- R4.18 31 := law.go:152 pick
          refine QL.v (fun w st => by first | exact r_pickT (v := .bool _) rfl rfl | exact r_pickF (v := .bool _) rfl rfl) rfl rfl rfl ?_
          refine QL.wl hKq fun w st => ?_
          refine WL.fin hK18 (fun _ _ h => h) ?_
          refine WC.condF rfl rfl ?_
          refine WC.skipJ hKC (fun _ _ h => h) () st (by repeat (first | exact sub_nil _ | refine sub_cons rfl rfl ?_))
    · skip
      refine WC.seq fun K19 hK19 => ?_
      -- region 2
      refine WC.region ?_
      -- R2.0 9 := law.go:151 binOp
      refine WL.v (by first | exact r_lss rfl rfl (decide_eq_true (by omega)) | exact r_lss rfl rfl (decide_eq_false (by omega)) | exact r_lss rfl rfl rfl) rfl rfl rfl ?_
      refine WL.fin hK19 (fun _ _ h => h) ?_
      refine WC.seq fun K20 hK20 => ?_
      refine WC.condF rfl rfl ?_
      refine WC.exitF hK4 (fun _ _ h => h) ?_
      refine WC.seq fun K21 hK21 => ?_
      -- region 12
      refine WC.region ?_
      -- R12.0 2 := law.go:161 assign
      refine WL.v (by first | exact r_assign (v := .bool _) rfl | exact r_assign rfl) rfl rfl rfl ?_
      refine WL.fin hK21 (fun _ _ h => h) ?_
      refine WC.ret1 Tryf.results6 (fun _ _ h => h) rfl ?_
      exact ⟨_, rfl, rfl, st⟩

end Go.Proofs.Qxb6500835aFmt

