import Derived.Test.Qxb6500835aV3
set_option linter.unusedVariables false
set_option linter.unusedSimpArgs false
namespace Go.Proofs.Qxb6500835a
open Go.RowKit Go.E1 Go.Conv

theorem swp_set {α : Type} {i m : Nat} {jt : Nat → α} (h : i ≠ m) (k : Nat) : (if k = m then jt i else if k = i then jt m else jt k) = swp jt i m k := by
  unfold swp
  by_cases hk1 : k = m
  · rw [if_pos hk1, if_neg (by omega), if_pos hk1]
  · rw [if_neg hk1]
    by_cases hk2 : k = i
    · rw [if_pos hk2, if_pos hk2]
    · rw [if_neg hk2, if_neg hk2, if_neg hk1]

set_option maxHeartbeats 8000000 in
theorem sink_ok (hb ib n : Nat) (f : Nat → Value) (it : Nat → Nat × Nat) {w0 : World} {M : Nat → Prop} {L : List HI} {w : World} {b1 b8 : Nat} {ga : Option Addr} {q gc g o : Nat} {I : Nat → Int} {db dO dl dc : Nat → Nat} {D : Nat → Nat → Int} (hG : Grs w0 M L b1 b8 ga q gc g o I db dO dl dc D)
    (hq : q ≤ 65536) (hn : n ≤ q) (hit : ItR f n it) (hok : ∀ i, i < n → (it i).1 < q ∧ (it i).2 < dl (it i).1) (hdn : Down (fun c : Nat × Nat => D c.1 c.2) it n 0)
    (st : St w0 M ((hb, Row 80 2 (heapR ib n q b8)) :: (ib, Row 67 (q * 2) f) :: L) w) :
    Calls Try.prog 21 #[.pointer (some ⟨hb, 0, none⟩)] w (Ret fun v w' => ∃ f' it', ItR f' n it' ∧ HP (fun c : Nat × Nat => D c.1 c.2) it' n ∧ ((List.range n).map it').Perm ((List.range n).map it) ∧
      St w0 M ((hb, Row 80 2 (heapR ib n q b8)) :: (ib, Row 67 (q * 2) f') :: L) w') := by
  refine enter [.pointer (some ⟨hb, 0, none⟩)] Try.func21 rfl Try.ntmps21 rfl ?_
  show WC _ _ _ 99 [] [(0, .pointer (some ⟨hb, 0, none⟩))] _
  refine WC.seq fun K363 hK363 => ?_
  -- region 0 (draws)
  refine WC.quietS st ty_mixed (by kernel_rfl) fun Kq hKq => ?_
  -- R0.0 7 := heap.go:57 move
  refine QL.v (fun w st => by first | exact r_move (v := .pointer _) rfl | exact r_move rfl) rfl rfl rfl ?_
  -- R0.1 8 := heap.go:57 nilCheck
  refine QL.v (fun w st => by exact r_nilCheck rfl) rfl rfl rfl ?_
  -- R0.2 9 := heap.go:57 fieldAddr
  refine QL.v (fun w st => by exact r_field ty_fld80_0 rfl) rfl rfl rfl ?_
  -- R0.3 10 := heap.go:57 load
  refine QL.v (fun w st => by exact r_load1 ty_one78 rfl (by first | assumption | exact st.c0 (by first | decide | omega) | exact st.c1 (by first | decide | omega) | exact st.c2 (by first | decide | omega) | exact st.c3 (by first | decide | omega) | exact st.c4 (by first | decide | omega) | exact st.c5 (by first | decide | omega) | exact st.c6 (by first | decide | omega) | exact st.c7 (by first | decide | omega) | exact st.c8 (by first | decide | omega))) rfl rfl rfl ?_
  -- R0.4 11 := heap.go:57 call
  refine QL.v (fun w st => by exact r_len ty_usl78 rfl) rfl rfl rfl ?_
  -- R0.5 2 := heap.go:57 assign
  refine QL.v (fun w st => by first | exact r_assign (v := .int _ _) rfl | exact r_assign rfl) rfl rfl rfl ?_
  -- R0.6 3 := heap.go:57 assign
  refine QL.v (fun w st => by first | exact r_assign (v := .int _ _) rfl | exact r_assign rfl) rfl rfl rfl ?_
  refine QL.wl hKq fun w st => ?_
  refine WL.fin hK363 (fun _ _ h => h) ?_
  refine WC.block ?_
  refine WC.loop (ι := Nat × (Nat → Value) × (Nat → Nat × Nat)) (fun z => [(0, .pointer (some ⟨hb, 0, none⟩)), (2, .int .i64 (z.1 : Nat)), (3, .int .i64 (n : Nat))])
    (fun z w' => St w0 M ((hb, Row 80 2 (heapR ib n q b8)) :: (ib, Row 67 (q * 2) z.2.1) :: L) w' ∧ ItR z.2.1 n z.2.2 ∧ Down (fun c : Nat × Nat => D c.1 c.2) z.2.2 n z.1 ∧
      ((List.range n).map z.2.2).Perm ((List.range n).map it) ∧ z.1 ≤ n) (fun z => n - z.1) (0, _, it) ⟨st, hit, hdn, List.Perm.refl _, Nat.zero_le _⟩ ?_ ?_
  · skip
    repeat (first | exact sub_nil _ | refine sub_cons rfl rfl ?_)
  clear hit hdn
  rintro ⟨i, f, jt⟩ w ⟨st, hit, hdn, hperm, hin⟩ K1 hK1
  simp only at st hit hdn hperm hin hK1 ⊢
  have hokj : ∀ k, k < n → (jt k).1 < q ∧ (jt k).2 < dl (jt k).1 := fun k hk => by
    have : jt k ∈ (List.range n).map it := hperm.mem_iff.1 (List.mem_map.2 ⟨k, List.mem_range.2 hk, rfl⟩)
    obtain ⟨j, hj, e⟩ := List.mem_map.1 this
    rw [← e]; exact hok j (List.mem_range.1 hj)
  by_cases hl : 2 * i + 1 < n
  · skip
    by_cases hll : D (jt (2 * i + 1)).1 (jt (2 * i + 1)).2 < D (jt i).1 (jt i).2
    · skip
      by_cases hr : 2 * i + 2 < n
      · skip
        by_cases hrl : D (jt (2 * i + 2)).1 (jt (2 * i + 2)).2 < D (jt (2 * i + 1)).1 (jt (2 * i + 1)).2
        · skip
          refine WC.block ?_
          refine WC.seq fun K364 hK364 => ?_
          -- region 1
          refine WC.region ?_
          -- R1.0 12 := heap.go:59 move
          refine WL.v (by first | exact r_move (v := .int _ _) rfl | exact r_move rfl) rfl rfl rfl ?_
          -- R1.1 4 := heap.go:59 assign
          refine WL.v (by first | exact r_assign (v := .int _ _) rfl | exact r_assign rfl) rfl rfl rfl ?_
          refine WL.fin hK364 (fun _ _ h => h) ?_
          refine WC.seq fun K365 hK365 => ?_
          refine WC.seq fun K366 hK366 => ?_
          -- region 2
          refine WC.region ?_
          -- R2.0 13 := heap.go:60 move
          refine WL.v (by first | exact r_move (v := .int _ _) rfl | exact r_move rfl) rfl rfl rfl ?_
          -- R2.1 14 := heap.go:60 binOp
          refine WL.v (by exact r_mul (r := ((2 * i : Nat) : Int)) rfl rfl (by rw [wi64 (by omega) (by omega)]; omega)) rfl rfl rfl ?_
          -- R2.2 15 := heap.go:60 binOp
          refine WL.v (by exact r_add (r := ((2 * i + 1 : Nat) : Int)) rfl rfl (by rw [wi64 (by omega) (by omega)]; omega)) rfl rfl rfl ?_
          -- R2.3 5 := heap.go:60 assign
          refine WL.v (by first | exact r_assign (v := .int _ _) rfl | exact r_assign rfl) rfl rfl rfl ?_
          refine WL.fin hK366 (fun _ _ h => h) ?_
          refine WC.seq fun K367 hK367 => ?_
          -- region 3 (draws)
          refine WC.quietS st ty_mixed (by kernel_rfl) fun Kq hKq => ?_
          -- R3.0 16 := heap.go:60 move
          refine QL.v (fun w st => by first | exact r_move (v := .int _ _) rfl | exact r_move rfl) rfl rfl rfl ?_
          -- R3.1 17 := heap.go:60 move
          refine QL.v (fun w st => by first | exact r_move (v := .int _ _) rfl | exact r_move rfl) rfl rfl rfl ?_
          -- R3.2 18 := heap.go:60 binOp
          refine QL.v (fun w st => by first | exact r_lss rfl rfl (decide_eq_true (by omega)) | exact r_lss rfl rfl (decide_eq_false (by omega)) | exact r_lss rfl rfl rfl) rfl rfl rfl ?_
          -- R3.3 19 := heap.go:60 move
          refine QL.v (fun w st => by first | exact r_move (v := .bool _) rfl | exact r_move rfl) rfl rfl rfl ?_
          -- R3.4 20 := heap.go:60 move
          refine QL.v (fun w st => by first | exact r_move (v := .pointer _) rfl | exact r_move rfl) rfl rfl rfl ?_
          -- R3.5 21 := heap.go:60 nilCheck
          refine QL.v (fun w st => by exact r_nilCheck rfl) rfl rfl rfl ?_
          -- R3.6 22 := heap.go:60 fieldAddr
          refine QL.v (fun w st => by exact r_field ty_fld80_1 rfl) rfl rfl rfl ?_
          -- R3.7 23 := heap.go:60 load
          refine QL.v (fun w st => by exact r_load1 ty_one71 rfl (by first | assumption | exact st.c0 (by first | decide | omega) | exact st.c1 (by first | decide | omega) | exact st.c2 (by first | decide | omega) | exact st.c3 (by first | decide | omega) | exact st.c4 (by first | decide | omega) | exact st.c5 (by first | decide | omega) | exact st.c6 (by first | decide | omega) | exact st.c7 (by first | decide | omega) | exact st.c8 (by first | decide | omega))) rfl rfl rfl ?_
          -- R3.8 24 := heap.go:60 move
          refine QL.v (fun w st => by first | exact r_move (v := .pointer _) rfl | exact r_move rfl) rfl rfl rfl ?_
          -- R3.9 25 := heap.go:60 nilCheck
          refine QL.v (fun w st => by exact r_nilCheck rfl) rfl rfl rfl ?_
          -- R3.10 26 := heap.go:60 fieldAddr
          refine QL.v (fun w st => by exact r_field ty_fld80_0 rfl) rfl rfl rfl ?_
          -- R3.11 27 := heap.go:60 load
          refine QL.v (fun w st => by exact r_load1 ty_one78 rfl (by first | assumption | exact st.c0 (by first | decide | omega) | exact st.c1 (by first | decide | omega) | exact st.c2 (by first | decide | omega) | exact st.c3 (by first | decide | omega) | exact st.c4 (by first | decide | omega) | exact st.c5 (by first | decide | omega) | exact st.c6 (by first | decide | omega) | exact st.c7 (by first | decide | omega) | exact st.c8 (by first | decide | omega))) rfl rfl rfl ?_
          -- R3.12 28 := heap.go:60 move
          refine QL.v (fun w st => by first | exact r_move (v := .int _ _) rfl | exact r_move rfl) rfl rfl rfl ?_
          -- R3.13 29 := heap.go:60 indexAddr
          refine QL.v (fun w st => by exact r_indexS (j := 2 * i + 1) ty_sl78 rfl rfl (by omega) (by omega)) rfl rfl rfl ?_
          -- R3.14 30 := heap.go:60 load
          refine QL.v (fun w st => by exact r_loadL (vs := [_, _]) ty_agg67 rfl ⟨((st.c1 (by omega)).trans (congrArg some (hit (2 * i + 1) (by omega)).1)), ((st.c1 (by omega)).trans (congrArg some (hit (2 * i + 1) (by omega)).2)), trivial⟩) rfl rfl rfl ?_
          -- R3.15 31 := heap.go:60 move
          refine QL.v (fun w st => by first | exact r_move (v := .pointer _) rfl | exact r_move rfl) rfl rfl rfl ?_
          -- R3.16 32 := heap.go:60 nilCheck
          refine QL.v (fun w st => by exact r_nilCheck rfl) rfl rfl rfl ?_
          -- R3.17 33 := heap.go:60 fieldAddr
          refine QL.v (fun w st => by exact r_field ty_fld80_0 rfl) rfl rfl rfl ?_
          -- R3.18 34 := heap.go:60 load
          refine QL.v (fun w st => by exact r_load1 ty_one78 rfl (by first | assumption | exact st.c0 (by first | decide | omega) | exact st.c1 (by first | decide | omega) | exact st.c2 (by first | decide | omega) | exact st.c3 (by first | decide | omega) | exact st.c4 (by first | decide | omega) | exact st.c5 (by first | decide | omega) | exact st.c6 (by first | decide | omega) | exact st.c7 (by first | decide | omega) | exact st.c8 (by first | decide | omega))) rfl rfl rfl ?_
          -- R3.19 35 := heap.go:60 move
          refine QL.v (fun w st => by first | exact r_move (v := .int _ _) rfl | exact r_move rfl) rfl rfl rfl ?_
          -- R3.20 36 := heap.go:60 indexAddr
          refine QL.v (fun w st => by exact r_indexS (j := i) ty_sl78 rfl rfl (by omega) (by omega)) rfl rfl rfl ?_
          -- R3.21 37 := heap.go:60 load
          refine QL.v (fun w st => by exact r_loadL (vs := [_, _]) ty_agg67 rfl ⟨((st.c1 (by omega)).trans (congrArg some (hit i (by omega)).1)), ((st.c1 (by omega)).trans (congrArg some (hit i (by omega)).2)), trivial⟩) rfl rfl rfl ?_
          -- R3.22 38 := heap.go:60 call
          refine QL.call (val := .bool true) (fun w st => r_callv ty_call13 rfl rfl) rfl rfl rfl (fun w st => less_true (hG.more [_, _]) (hokj _ (by omega)) (hokj _ (by omega)) true (decide_eq_true hll) st) ?_
          -- R3.23 39 := heap.go:60 pick
          refine QL.v (fun w st => by first | exact r_pickT (v := .bool _) rfl rfl | exact r_pickF (v := .bool _) rfl rfl) rfl rfl rfl ?_
          refine QL.wl hKq fun w st => ?_
          refine WL.fin hK367 (fun _ _ h => h) ?_
          refine WC.condT rfl rfl ?_
          -- region 4
          refine WC.region ?_
          -- R4.0 40 := heap.go:61 move
          refine WL.v (by first | exact r_move (v := .int _ _) rfl | exact r_move rfl) rfl rfl rfl ?_
          -- R4.1 4 := heap.go:61 assign
          refine WL.v (by first | exact r_assign (v := .int _ _) rfl | exact r_assign rfl) rfl rfl rfl ?_
          refine WL.fin hK365 (fun _ _ h => h) ?_
          refine WC.seq fun K368 hK368 => ?_
          refine WC.seq fun K369 hK369 => ?_
          -- region 5
          refine WC.region ?_
          -- R5.0 41 := heap.go:63 move
          refine WL.v (by first | exact r_move (v := .int _ _) rfl | exact r_move rfl) rfl rfl rfl ?_
          -- R5.1 42 := heap.go:63 binOp
          refine WL.v (by exact r_mul (r := ((2 * i : Nat) : Int)) rfl rfl (by rw [wi64 (by omega) (by omega)]; omega)) rfl rfl rfl ?_
          -- R5.2 43 := heap.go:63 binOp
          refine WL.v (by exact r_add (r := ((2 * i + 2 : Nat) : Int)) rfl rfl (by rw [wi64 (by omega) (by omega)]; omega)) rfl rfl rfl ?_
          -- R5.3 6 := heap.go:63 assign
          refine WL.v (by first | exact r_assign (v := .int _ _) rfl | exact r_assign rfl) rfl rfl rfl ?_
          refine WL.fin hK369 (fun _ _ h => h) ?_
          refine WC.seq fun K370 hK370 => ?_
          -- region 6 (draws)
          refine WC.quietS st ty_mixed (by kernel_rfl) fun Kq hKq => ?_
          -- R6.0 44 := heap.go:63 move
          refine QL.v (fun w st => by first | exact r_move (v := .int _ _) rfl | exact r_move rfl) rfl rfl rfl ?_
          -- R6.1 45 := heap.go:63 move
          refine QL.v (fun w st => by first | exact r_move (v := .int _ _) rfl | exact r_move rfl) rfl rfl rfl ?_
          -- R6.2 46 := heap.go:63 binOp
          refine QL.v (fun w st => by first | exact r_lss rfl rfl (decide_eq_true (by omega)) | exact r_lss rfl rfl (decide_eq_false (by omega)) | exact r_lss rfl rfl rfl) rfl rfl rfl ?_
          -- R6.3 47 := heap.go:63 move
          refine QL.v (fun w st => by first | exact r_move (v := .bool _) rfl | exact r_move rfl) rfl rfl rfl ?_
          -- R6.4 48 := heap.go:63 move
          refine QL.v (fun w st => by first | exact r_move (v := .pointer _) rfl | exact r_move rfl) rfl rfl rfl ?_
          -- R6.5 49 := heap.go:63 nilCheck
          refine QL.v (fun w st => by exact r_nilCheck rfl) rfl rfl rfl ?_
          -- R6.6 50 := heap.go:63 fieldAddr
          refine QL.v (fun w st => by exact r_field ty_fld80_1 rfl) rfl rfl rfl ?_
          -- R6.7 51 := heap.go:63 load
          refine QL.v (fun w st => by exact r_load1 ty_one71 rfl (by first | assumption | exact st.c0 (by first | decide | omega) | exact st.c1 (by first | decide | omega) | exact st.c2 (by first | decide | omega) | exact st.c3 (by first | decide | omega) | exact st.c4 (by first | decide | omega) | exact st.c5 (by first | decide | omega) | exact st.c6 (by first | decide | omega) | exact st.c7 (by first | decide | omega) | exact st.c8 (by first | decide | omega))) rfl rfl rfl ?_
          -- R6.8 52 := heap.go:63 move
          refine QL.v (fun w st => by first | exact r_move (v := .pointer _) rfl | exact r_move rfl) rfl rfl rfl ?_
          -- R6.9 53 := heap.go:63 nilCheck
          refine QL.v (fun w st => by exact r_nilCheck rfl) rfl rfl rfl ?_
          -- R6.10 54 := heap.go:63 fieldAddr
          refine QL.v (fun w st => by exact r_field ty_fld80_0 rfl) rfl rfl rfl ?_
          -- R6.11 55 := heap.go:63 load
          refine QL.v (fun w st => by exact r_load1 ty_one78 rfl (by first | assumption | exact st.c0 (by first | decide | omega) | exact st.c1 (by first | decide | omega) | exact st.c2 (by first | decide | omega) | exact st.c3 (by first | decide | omega) | exact st.c4 (by first | decide | omega) | exact st.c5 (by first | decide | omega) | exact st.c6 (by first | decide | omega) | exact st.c7 (by first | decide | omega) | exact st.c8 (by first | decide | omega))) rfl rfl rfl ?_
          -- R6.12 56 := heap.go:63 move
          refine QL.v (fun w st => by first | exact r_move (v := .int _ _) rfl | exact r_move rfl) rfl rfl rfl ?_
          -- R6.13 57 := heap.go:63 indexAddr
          refine QL.v (fun w st => by exact r_indexS (j := 2 * i + 2) ty_sl78 rfl rfl (by omega) (by omega)) rfl rfl rfl ?_
          -- R6.14 58 := heap.go:63 load
          refine QL.v (fun w st => by exact r_loadL (vs := [_, _]) ty_agg67 rfl ⟨((st.c1 (by omega)).trans (congrArg some (hit (2 * i + 2) (by omega)).1)), ((st.c1 (by omega)).trans (congrArg some (hit (2 * i + 2) (by omega)).2)), trivial⟩) rfl rfl rfl ?_
          -- R6.15 59 := heap.go:63 move
          refine QL.v (fun w st => by first | exact r_move (v := .pointer _) rfl | exact r_move rfl) rfl rfl rfl ?_
          -- R6.16 60 := heap.go:63 nilCheck
          refine QL.v (fun w st => by exact r_nilCheck rfl) rfl rfl rfl ?_
          -- R6.17 61 := heap.go:63 fieldAddr
          refine QL.v (fun w st => by exact r_field ty_fld80_0 rfl) rfl rfl rfl ?_
          -- R6.18 62 := heap.go:63 load
          refine QL.v (fun w st => by exact r_load1 ty_one78 rfl (by first | assumption | exact st.c0 (by first | decide | omega) | exact st.c1 (by first | decide | omega) | exact st.c2 (by first | decide | omega) | exact st.c3 (by first | decide | omega) | exact st.c4 (by first | decide | omega) | exact st.c5 (by first | decide | omega) | exact st.c6 (by first | decide | omega) | exact st.c7 (by first | decide | omega) | exact st.c8 (by first | decide | omega))) rfl rfl rfl ?_
          -- R6.19 63 := heap.go:63 move
          refine QL.v (fun w st => by first | exact r_move (v := .int _ _) rfl | exact r_move rfl) rfl rfl rfl ?_
          -- R6.20 64 := heap.go:63 indexAddr
          refine QL.v (fun w st => by exact r_indexS (j := 2 * i + 1) ty_sl78 rfl rfl (by omega) (by omega)) rfl rfl rfl ?_
          -- R6.21 65 := heap.go:63 load
          refine QL.v (fun w st => by exact r_loadL (vs := [_, _]) ty_agg67 rfl ⟨((st.c1 (by omega)).trans (congrArg some (hit (2 * i + 1) (by omega)).1)), ((st.c1 (by omega)).trans (congrArg some (hit (2 * i + 1) (by omega)).2)), trivial⟩) rfl rfl rfl ?_
          -- R6.22 66 := heap.go:63 call
          refine QL.call (val := .bool true) (fun w st => r_callv ty_call13 rfl rfl) rfl rfl rfl (fun w st => less_true (hG.more [_, _]) (hokj _ (by omega)) (hokj _ (by omega)) true (decide_eq_true hrl) st) ?_
          -- R6.23 67 := heap.go:63 pick
          refine QL.v (fun w st => by first | exact r_pickT (v := .bool _) rfl rfl | exact r_pickF (v := .bool _) rfl rfl) rfl rfl rfl ?_
          refine QL.wl hKq fun w st => ?_
          refine WL.fin hK370 (fun _ _ h => h) ?_
          refine WC.condT rfl rfl ?_
          -- region 7
          refine WC.region ?_
          -- R7.0 68 := heap.go:64 move
          refine WL.v (by first | exact r_move (v := .int _ _) rfl | exact r_move rfl) rfl rfl rfl ?_
          -- R7.1 4 := heap.go:64 assign
          refine WL.v (by first | exact r_assign (v := .int _ _) rfl | exact r_assign rfl) rfl rfl rfl ?_
          refine WL.fin hK368 (fun _ _ h => h) ?_
          refine WC.seq fun K371 hK371 => ?_
          refine WC.seq fun K372 hK372 => ?_
          -- region 8
          refine WC.region ?_
          -- R8.0 69 := heap.go:66 move
          refine WL.v (by first | exact r_move (v := .int _ _) rfl | exact r_move rfl) rfl rfl rfl ?_
          -- R8.1 70 := heap.go:66 move
          refine WL.v (by first | exact r_move (v := .int _ _) rfl | exact r_move rfl) rfl rfl rfl ?_
          -- R8.2 71 := heap.go:66 binOp
          refine WL.v (by first | exact r_eql rfl rfl (decide_eq_true (by omega)) | exact r_eql rfl rfl (decide_eq_false (by omega)) | exact r_eql rfl rfl rfl) rfl rfl rfl ?_
          refine WL.fin hK372 (fun _ _ h => h) ?_
          refine WC.condF rfl rfl ?_
          refine WC.skipF hK371 (fun _ _ h => h) ?_
          refine WC.seq fun K373 hK373 => ?_
          -- region 9 (draws)
          refine WC.heldS2 [25, 26, 27] [0, 1, 2, 3, 5, 6, 7, 8, 10, 11, 12, 13, 14, 15, 16, 17, 18, 19, 20, 21, 22, 23] [4, 9, 24] [25, 26, 27] st (st) ty_mixed (by kernel_rfl) fun w st Kq Kq2 hKq hKq2 => ?_
          -- R9.0 72 := heap.go:69 move
          refine HL.v (fun w st => by first | exact r_move (v := .pointer _) rfl | exact r_move rfl) rfl rfl rfl ?_
          -- R9.1 73 := heap.go:69 nilCheck
          refine HL.v (fun w st => by exact r_nilCheck rfl) rfl rfl rfl ?_
          -- R9.2 74 := heap.go:69 fieldAddr
          refine HL.v (fun w st => by exact r_field ty_fld80_0 rfl) rfl rfl rfl ?_
          -- R9.3 75 := heap.go:69 load
          refine HL.v (fun w st => by exact r_load1 ty_one78 rfl (by first | assumption | exact st.c0 (by first | decide | omega) | exact st.c1 (by first | decide | omega) | exact st.c2 (by first | decide | omega) | exact st.c3 (by first | decide | omega) | exact st.c4 (by first | decide | omega) | exact st.c5 (by first | decide | omega) | exact st.c6 (by first | decide | omega) | exact st.c7 (by first | decide | omega) | exact st.c8 (by first | decide | omega))) rfl rfl rfl ?_
          -- R9.5 77 := heap.go:69 move
          refine HL.v (fun w st => by first | exact r_move (v := .pointer _) rfl | exact r_move rfl) rfl rfl rfl ?_
          -- R9.6 78 := heap.go:69 nilCheck
          refine HL.v (fun w st => by exact r_nilCheck rfl) rfl rfl rfl ?_
          -- R9.7 79 := heap.go:69 fieldAddr
          refine HL.v (fun w st => by exact r_field ty_fld80_0 rfl) rfl rfl rfl ?_
          -- R9.8 80 := heap.go:69 load
          refine HL.v (fun w st => by exact r_load1 ty_one78 rfl (by first | assumption | exact st.c0 (by first | decide | omega) | exact st.c1 (by first | decide | omega) | exact st.c2 (by first | decide | omega) | exact st.c3 (by first | decide | omega) | exact st.c4 (by first | decide | omega) | exact st.c5 (by first | decide | omega) | exact st.c6 (by first | decide | omega) | exact st.c7 (by first | decide | omega) | exact st.c8 (by first | decide | omega))) rfl rfl rfl ?_
          -- R9.10 82 := heap.go:69 move
          refine HL.v (fun w st => by first | exact r_move (v := .pointer _) rfl | exact r_move rfl) rfl rfl rfl ?_
          -- R9.11 83 := heap.go:69 nilCheck
          refine HL.v (fun w st => by exact r_nilCheck rfl) rfl rfl rfl ?_
          -- R9.12 84 := heap.go:69 fieldAddr
          refine HL.v (fun w st => by exact r_field ty_fld80_0 rfl) rfl rfl rfl ?_
          -- R9.13 85 := heap.go:69 load
          refine HL.v (fun w st => by exact r_load1 ty_one78 rfl (by first | assumption | exact st.c0 (by first | decide | omega) | exact st.c1 (by first | decide | omega) | exact st.c2 (by first | decide | omega) | exact st.c3 (by first | decide | omega) | exact st.c4 (by first | decide | omega) | exact st.c5 (by first | decide | omega) | exact st.c6 (by first | decide | omega) | exact st.c7 (by first | decide | omega) | exact st.c8 (by first | decide | omega))) rfl rfl rfl ?_
          -- R9.14 86 := heap.go:69 move
          refine HL.v (fun w st => by first | exact r_move (v := .int _ _) rfl | exact r_move rfl) rfl rfl rfl ?_
          -- R9.15 87 := heap.go:69 indexAddr
          refine HL.v (fun w st => by exact r_indexS (j := 2 * i + 2) ty_sl78 rfl rfl (by omega) (by omega)) rfl rfl rfl ?_
          -- R9.16 88 := heap.go:69 load
          refine HL.v (fun w st => by exact r_loadL (vs := [_, _]) ty_agg67 rfl ⟨((st.c1 (by omega)).trans (congrArg some (hit (2 * i + 2) (by omega)).1)), ((st.c1 (by omega)).trans (congrArg some (hit (2 * i + 2) (by omega)).2)), trivial⟩) rfl rfl rfl ?_
          -- R9.17 89 := heap.go:69 move
          refine HL.v (fun w st => by first | exact r_move (v := .pointer _) rfl | exact r_move rfl) rfl rfl rfl ?_
          -- R9.18 90 := heap.go:69 nilCheck
          refine HL.v (fun w st => by exact r_nilCheck rfl) rfl rfl rfl ?_
          -- R9.19 91 := heap.go:69 fieldAddr
          refine HL.v (fun w st => by exact r_field ty_fld80_0 rfl) rfl rfl rfl ?_
          -- R9.20 92 := heap.go:69 load
          refine HL.v (fun w st => by exact r_load1 ty_one78 rfl (by first | assumption | exact st.c0 (by first | decide | omega) | exact st.c1 (by first | decide | omega) | exact st.c2 (by first | decide | omega) | exact st.c3 (by first | decide | omega) | exact st.c4 (by first | decide | omega) | exact st.c5 (by first | decide | omega) | exact st.c6 (by first | decide | omega) | exact st.c7 (by first | decide | omega) | exact st.c8 (by first | decide | omega))) rfl rfl rfl ?_
          -- R9.21 93 := heap.go:69 move
          refine HL.v (fun w st => by first | exact r_move (v := .int _ _) rfl | exact r_move rfl) rfl rfl rfl ?_
          -- R9.22 94 := heap.go:69 indexAddr
          refine HL.v (fun w st => by exact r_indexS (j := i) ty_sl78 rfl rfl (by omega) (by omega)) rfl rfl rfl ?_
          -- R9.23 95 := heap.go:69 load
          refine HL.v (fun w st => by exact r_loadL (vs := [_, _]) ty_agg67 rfl ⟨((st.c1 (by omega)).trans (congrArg some (hit i (by omega)).1)), ((st.c1 (by omega)).trans (congrArg some (hit i (by omega)).2)), trivial⟩) rfl rfl rfl ?_
          refine HL.pure hKq ?_
          -- R9.4 76 := heap.go:69 move
          refine HL.v (fun w _ => by first | exact r_move (v := .int _ _) rfl | exact r_move rfl) rfl rfl rfl ?_
          -- R9.9 81 := heap.go:69 move
          refine HL.v (fun w _ => by first | exact r_move (v := .int _ _) rfl | exact r_move rfl) rfl rfl rfl ?_
          -- R9.24 96 := heap.go:69 indexAddr
          refine HL.v (fun w _ => by exact r_indexS (j := i) ty_sl78 rfl rfl (by omega) (by omega)) rfl rfl rfl ?_
          refine HL.fin hKq2 ?_
          refine TL.at ?_
          -- R9.25 None := heap.go:69 store
          first | refine WL.storeW (vs := [_, _]) st ty_agg67 rfl rfl rfl rfl rfl rfl ?_ | refine WL.storeL (vs := [_, _]) st ty_agg67 rfl rfl rfl rfl (by first | decide | omega) rfl rfl ?_ | refine WL.storeW (vs := [_, _]) st.front1 ty_agg67 rfl rfl rfl rfl rfl rfl ?_ | refine WL.storeL (vs := [_, _]) st.front1 ty_agg67 rfl rfl rfl rfl (by first | decide | omega) rfl rfl ?_ | refine WL.storeW (vs := [_, _]) st.front2 ty_agg67 rfl rfl rfl rfl rfl rfl ?_ | refine WL.storeL (vs := [_, _]) st.front2 ty_agg67 rfl rfl rfl rfl (by first | decide | omega) rfl rfl ?_ | refine WL.storeW (vs := [_, _]) st.front3 ty_agg67 rfl rfl rfl rfl rfl rfl ?_ | refine WL.storeL (vs := [_, _]) st.front3 ty_agg67 rfl rfl rfl rfl (by first | decide | omega) rfl rfl ?_ | refine WL.storeW (vs := [_, _]) st.front4 ty_agg67 rfl rfl rfl rfl rfl rfl ?_ | refine WL.storeL (vs := [_, _]) st.front4 ty_agg67 rfl rfl rfl rfl (by first | decide | omega) rfl rfl ?_ | refine WL.storeW (vs := [_, _]) st.front5 ty_agg67 rfl rfl rfl rfl rfl rfl ?_ | refine WL.storeL (vs := [_, _]) st.front5 ty_agg67 rfl rfl rfl rfl (by first | decide | omega) rfl rfl ?_ | refine WL.storeW (vs := [_, _]) st.front6 ty_agg67 rfl rfl rfl rfl rfl rfl ?_ | refine WL.storeL (vs := [_, _]) st.front6 ty_agg67 rfl rfl rfl rfl (by first | decide | omega) rfl rfl ?_ | refine WL.storeW (vs := [_, _]) st.front7 ty_agg67 rfl rfl rfl rfl rfl rfl ?_ | refine WL.storeL (vs := [_, _]) st.front7 ty_agg67 rfl rfl rfl rfl (by first | decide | omega) rfl rfl ?_ | refine WL.storeW (vs := [_, _]) st.front8 ty_agg67 rfl rfl rfl rfl rfl rfl ?_ | refine WL.storeL (vs := [_, _]) st.front8 ty_agg67 rfl rfl rfl rfl (by first | decide | omega) rfl rfl ?_
          intro w st
          refine TL.nxt' rfl ?_
          refine TL.at ?_
          -- R9.26 97 := heap.go:69 indexAddr
          refine WL.v (by exact r_indexS (j := 2 * i + 2) ty_sl78 rfl rfl (by omega) (by omega)) rfl rfl rfl ?_
          refine TL.nxt' rfl ?_
          refine TL.at ?_
          -- R9.27 None := heap.go:69 store
          first | refine WL.storeW (vs := [_, _]) st ty_agg67 rfl rfl rfl rfl rfl rfl ?_ | refine WL.storeL (vs := [_, _]) st ty_agg67 rfl rfl rfl rfl (by first | decide | omega) rfl rfl ?_ | refine WL.storeW (vs := [_, _]) st.front1 ty_agg67 rfl rfl rfl rfl rfl rfl ?_ | refine WL.storeL (vs := [_, _]) st.front1 ty_agg67 rfl rfl rfl rfl (by first | decide | omega) rfl rfl ?_ | refine WL.storeW (vs := [_, _]) st.front2 ty_agg67 rfl rfl rfl rfl rfl rfl ?_ | refine WL.storeL (vs := [_, _]) st.front2 ty_agg67 rfl rfl rfl rfl (by first | decide | omega) rfl rfl ?_ | refine WL.storeW (vs := [_, _]) st.front3 ty_agg67 rfl rfl rfl rfl rfl rfl ?_ | refine WL.storeL (vs := [_, _]) st.front3 ty_agg67 rfl rfl rfl rfl (by first | decide | omega) rfl rfl ?_ | refine WL.storeW (vs := [_, _]) st.front4 ty_agg67 rfl rfl rfl rfl rfl rfl ?_ | refine WL.storeL (vs := [_, _]) st.front4 ty_agg67 rfl rfl rfl rfl (by first | decide | omega) rfl rfl ?_ | refine WL.storeW (vs := [_, _]) st.front5 ty_agg67 rfl rfl rfl rfl rfl rfl ?_ | refine WL.storeL (vs := [_, _]) st.front5 ty_agg67 rfl rfl rfl rfl (by first | decide | omega) rfl rfl ?_ | refine WL.storeW (vs := [_, _]) st.front6 ty_agg67 rfl rfl rfl rfl rfl rfl ?_ | refine WL.storeL (vs := [_, _]) st.front6 ty_agg67 rfl rfl rfl rfl (by first | decide | omega) rfl rfl ?_ | refine WL.storeW (vs := [_, _]) st.front7 ty_agg67 rfl rfl rfl rfl rfl rfl ?_ | refine WL.storeL (vs := [_, _]) st.front7 ty_agg67 rfl rfl rfl rfl (by first | decide | omega) rfl rfl ?_ | refine WL.storeW (vs := [_, _]) st.front8 ty_agg67 rfl rfl rfl rfl rfl rfl ?_ | refine WL.storeL (vs := [_, _]) st.front8 ty_agg67 rfl rfl rfl rfl (by first | decide | omega) rfl rfl ?_
          intro w st
          refine TL.nxt' rfl ?_
          refine TL.wl ?_
          refine WL.fin hK373 (fun _ _ h => h) ?_
          -- region 10
          refine WC.region ?_
          -- R10.0 98 := heap.go:70 move
          refine WL.v (by first | exact r_move (v := .int _ _) rfl | exact r_move rfl) rfl rfl rfl ?_
          -- R10.1 2 := heap.go:70 assign
          refine WL.v (by first | exact r_assign (v := .int _ _) rfl | exact r_assign rfl) rfl rfl rfl ?_
          refine WL.next hK1 (fun _ _ h => h) (2 * i + 2, _, swp jt i (2 * i + 2)) ⟨st.front1, ((hit.set (jt (2 * i + 2))).set (jt i)).congr (fun k hk => swp_set (by omega) k), hdn.step hr (.inr rfl) (Int.lt_trans hrl hll) (fun k h0 hk he => ?_), (swp_perm jt (by omega) hr).trans hperm, by show 2 * i + 2 ≤ n; omega⟩ (by show n - (2 * i + 2) < n - i; omega) (by repeat (first | exact sub_nil _ | refine sub_cons rfl rfl ?_))
          have hk' : k = 2 * i + 1 ∨ k = 2 * i + 2 := by omega
          rcases hk' with rfl | rfl
          · exact Int.le_of_lt hrl
          · exact Int.le_refl _
        · skip
          refine WC.block ?_
          refine WC.seq fun K374 hK374 => ?_
          -- region 1
          refine WC.region ?_
          -- R1.0 12 := heap.go:59 move
          refine WL.v (by first | exact r_move (v := .int _ _) rfl | exact r_move rfl) rfl rfl rfl ?_
          -- R1.1 4 := heap.go:59 assign
          refine WL.v (by first | exact r_assign (v := .int _ _) rfl | exact r_assign rfl) rfl rfl rfl ?_
          refine WL.fin hK374 (fun _ _ h => h) ?_
          refine WC.seq fun K375 hK375 => ?_
          refine WC.seq fun K376 hK376 => ?_
          -- region 2
          refine WC.region ?_
          -- R2.0 13 := heap.go:60 move
          refine WL.v (by first | exact r_move (v := .int _ _) rfl | exact r_move rfl) rfl rfl rfl ?_
          -- R2.1 14 := heap.go:60 binOp
          refine WL.v (by exact r_mul (r := ((2 * i : Nat) : Int)) rfl rfl (by rw [wi64 (by omega) (by omega)]; omega)) rfl rfl rfl ?_
          -- R2.2 15 := heap.go:60 binOp
          refine WL.v (by exact r_add (r := ((2 * i + 1 : Nat) : Int)) rfl rfl (by rw [wi64 (by omega) (by omega)]; omega)) rfl rfl rfl ?_
          -- R2.3 5 := heap.go:60 assign
          refine WL.v (by first | exact r_assign (v := .int _ _) rfl | exact r_assign rfl) rfl rfl rfl ?_
          refine WL.fin hK376 (fun _ _ h => h) ?_
          refine WC.seq fun K377 hK377 => ?_
          -- region 3 (draws)
          refine WC.quietS st ty_mixed (by kernel_rfl) fun Kq hKq => ?_
          -- R3.0 16 := heap.go:60 move
          refine QL.v (fun w st => by first | exact r_move (v := .int _ _) rfl | exact r_move rfl) rfl rfl rfl ?_
          -- R3.1 17 := heap.go:60 move
          refine QL.v (fun w st => by first | exact r_move (v := .int _ _) rfl | exact r_move rfl) rfl rfl rfl ?_
          -- R3.2 18 := heap.go:60 binOp
          refine QL.v (fun w st => by first | exact r_lss rfl rfl (decide_eq_true (by omega)) | exact r_lss rfl rfl (decide_eq_false (by omega)) | exact r_lss rfl rfl rfl) rfl rfl rfl ?_
          -- R3.3 19 := heap.go:60 move
          refine QL.v (fun w st => by first | exact r_move (v := .bool _) rfl | exact r_move rfl) rfl rfl rfl ?_
          -- R3.4 20 := heap.go:60 move
          refine QL.v (fun w st => by first | exact r_move (v := .pointer _) rfl | exact r_move rfl) rfl rfl rfl ?_
          -- R3.5 21 := heap.go:60 nilCheck
          refine QL.v (fun w st => by exact r_nilCheck rfl) rfl rfl rfl ?_
          -- R3.6 22 := heap.go:60 fieldAddr
          refine QL.v (fun w st => by exact r_field ty_fld80_1 rfl) rfl rfl rfl ?_
          -- R3.7 23 := heap.go:60 load
          refine QL.v (fun w st => by exact r_load1 ty_one71 rfl (by first | assumption | exact st.c0 (by first | decide | omega) | exact st.c1 (by first | decide | omega) | exact st.c2 (by first | decide | omega) | exact st.c3 (by first | decide | omega) | exact st.c4 (by first | decide | omega) | exact st.c5 (by first | decide | omega) | exact st.c6 (by first | decide | omega) | exact st.c7 (by first | decide | omega) | exact st.c8 (by first | decide | omega))) rfl rfl rfl ?_
          -- R3.8 24 := heap.go:60 move
          refine QL.v (fun w st => by first | exact r_move (v := .pointer _) rfl | exact r_move rfl) rfl rfl rfl ?_
          -- R3.9 25 := heap.go:60 nilCheck
          refine QL.v (fun w st => by exact r_nilCheck rfl) rfl rfl rfl ?_
          -- R3.10 26 := heap.go:60 fieldAddr
          refine QL.v (fun w st => by exact r_field ty_fld80_0 rfl) rfl rfl rfl ?_
          -- R3.11 27 := heap.go:60 load
          refine QL.v (fun w st => by exact r_load1 ty_one78 rfl (by first | assumption | exact st.c0 (by first | decide | omega) | exact st.c1 (by first | decide | omega) | exact st.c2 (by first | decide | omega) | exact st.c3 (by first | decide | omega) | exact st.c4 (by first | decide | omega) | exact st.c5 (by first | decide | omega) | exact st.c6 (by first | decide | omega) | exact st.c7 (by first | decide | omega) | exact st.c8 (by first | decide | omega))) rfl rfl rfl ?_
          -- R3.12 28 := heap.go:60 move
          refine QL.v (fun w st => by first | exact r_move (v := .int _ _) rfl | exact r_move rfl) rfl rfl rfl ?_
          -- R3.13 29 := heap.go:60 indexAddr
          refine QL.v (fun w st => by exact r_indexS (j := 2 * i + 1) ty_sl78 rfl rfl (by omega) (by omega)) rfl rfl rfl ?_
          -- R3.14 30 := heap.go:60 load
          refine QL.v (fun w st => by exact r_loadL (vs := [_, _]) ty_agg67 rfl ⟨((st.c1 (by omega)).trans (congrArg some (hit (2 * i + 1) (by omega)).1)), ((st.c1 (by omega)).trans (congrArg some (hit (2 * i + 1) (by omega)).2)), trivial⟩) rfl rfl rfl ?_
          -- R3.15 31 := heap.go:60 move
          refine QL.v (fun w st => by first | exact r_move (v := .pointer _) rfl | exact r_move rfl) rfl rfl rfl ?_
          -- R3.16 32 := heap.go:60 nilCheck
          refine QL.v (fun w st => by exact r_nilCheck rfl) rfl rfl rfl ?_
          -- R3.17 33 := heap.go:60 fieldAddr
          refine QL.v (fun w st => by exact r_field ty_fld80_0 rfl) rfl rfl rfl ?_
          -- R3.18 34 := heap.go:60 load
          refine QL.v (fun w st => by exact r_load1 ty_one78 rfl (by first | assumption | exact st.c0 (by first | decide | omega) | exact st.c1 (by first | decide | omega) | exact st.c2 (by first | decide | omega) | exact st.c3 (by first | decide | omega) | exact st.c4 (by first | decide | omega) | exact st.c5 (by first | decide | omega) | exact st.c6 (by first | decide | omega) | exact st.c7 (by first | decide | omega) | exact st.c8 (by first | decide | omega))) rfl rfl rfl ?_
          -- R3.19 35 := heap.go:60 move
          refine QL.v (fun w st => by first | exact r_move (v := .int _ _) rfl | exact r_move rfl) rfl rfl rfl ?_
          -- R3.20 36 := heap.go:60 indexAddr
          refine QL.v (fun w st => by exact r_indexS (j := i) ty_sl78 rfl rfl (by omega) (by omega)) rfl rfl rfl ?_
          -- R3.21 37 := heap.go:60 load
          refine QL.v (fun w st => by exact r_loadL (vs := [_, _]) ty_agg67 rfl ⟨((st.c1 (by omega)).trans (congrArg some (hit i (by omega)).1)), ((st.c1 (by omega)).trans (congrArg some (hit i (by omega)).2)), trivial⟩) rfl rfl rfl ?_
          -- R3.22 38 := heap.go:60 call
          refine QL.call (val := .bool true) (fun w st => r_callv ty_call13 rfl rfl) rfl rfl rfl (fun w st => less_true (hG.more [_, _]) (hokj _ (by omega)) (hokj _ (by omega)) true (decide_eq_true hll) st) ?_
          -- R3.23 39 := heap.go:60 pick
          refine QL.v (fun w st => by first | exact r_pickT (v := .bool _) rfl rfl | exact r_pickF (v := .bool _) rfl rfl) rfl rfl rfl ?_
          refine QL.wl hKq fun w st => ?_
          refine WL.fin hK377 (fun _ _ h => h) ?_
          refine WC.condT rfl rfl ?_
          -- region 4
          refine WC.region ?_
          -- R4.0 40 := heap.go:61 move
          refine WL.v (by first | exact r_move (v := .int _ _) rfl | exact r_move rfl) rfl rfl rfl ?_
          -- R4.1 4 := heap.go:61 assign
          refine WL.v (by first | exact r_assign (v := .int _ _) rfl | exact r_assign rfl) rfl rfl rfl ?_
          refine WL.fin hK375 (fun _ _ h => h) ?_
          refine WC.seq fun K378 hK378 => ?_
          refine WC.seq fun K379 hK379 => ?_
          -- region 5
          refine WC.region ?_
          -- R5.0 41 := heap.go:63 move
          refine WL.v (by first | exact r_move (v := .int _ _) rfl | exact r_move rfl) rfl rfl rfl ?_
          -- R5.1 42 := heap.go:63 binOp
          refine WL.v (by exact r_mul (r := ((2 * i : Nat) : Int)) rfl rfl (by rw [wi64 (by omega) (by omega)]; omega)) rfl rfl rfl ?_
          -- R5.2 43 := heap.go:63 binOp
          refine WL.v (by exact r_add (r := ((2 * i + 2 : Nat) : Int)) rfl rfl (by rw [wi64 (by omega) (by omega)]; omega)) rfl rfl rfl ?_
          -- R5.3 6 := heap.go:63 assign
          refine WL.v (by first | exact r_assign (v := .int _ _) rfl | exact r_assign rfl) rfl rfl rfl ?_
          refine WL.fin hK379 (fun _ _ h => h) ?_
          refine WC.seq fun K380 hK380 => ?_
          -- region 6 (draws)
          refine WC.quietS st ty_mixed (by kernel_rfl) fun Kq hKq => ?_
          -- R6.0 44 := heap.go:63 move
          refine QL.v (fun w st => by first | exact r_move (v := .int _ _) rfl | exact r_move rfl) rfl rfl rfl ?_
          -- R6.1 45 := heap.go:63 move
          refine QL.v (fun w st => by first | exact r_move (v := .int _ _) rfl | exact r_move rfl) rfl rfl rfl ?_
          -- R6.2 46 := heap.go:63 binOp
          refine QL.v (fun w st => by first | exact r_lss rfl rfl (decide_eq_true (by omega)) | exact r_lss rfl rfl (decide_eq_false (by omega)) | exact r_lss rfl rfl rfl) rfl rfl rfl ?_
          -- R6.3 47 := heap.go:63 move
          refine QL.v (fun w st => by first | exact r_move (v := .bool _) rfl | exact r_move rfl) rfl rfl rfl ?_
          -- R6.4 48 := heap.go:63 move
          refine QL.v (fun w st => by first | exact r_move (v := .pointer _) rfl | exact r_move rfl) rfl rfl rfl ?_
          -- R6.5 49 := heap.go:63 nilCheck
          refine QL.v (fun w st => by exact r_nilCheck rfl) rfl rfl rfl ?_
          -- R6.6 50 := heap.go:63 fieldAddr
          refine QL.v (fun w st => by exact r_field ty_fld80_1 rfl) rfl rfl rfl ?_
          -- R6.7 51 := heap.go:63 load
          refine QL.v (fun w st => by exact r_load1 ty_one71 rfl (by first | assumption | exact st.c0 (by first | decide | omega) | exact st.c1 (by first | decide | omega) | exact st.c2 (by first | decide | omega) | exact st.c3 (by first | decide | omega) | exact st.c4 (by first | decide | omega) | exact st.c5 (by first | decide | omega) | exact st.c6 (by first | decide | omega) | exact st.c7 (by first | decide | omega) | exact st.c8 (by first | decide | omega))) rfl rfl rfl ?_
          -- R6.8 52 := heap.go:63 move
          refine QL.v (fun w st => by first | exact r_move (v := .pointer _) rfl | exact r_move rfl) rfl rfl rfl ?_
          -- R6.9 53 := heap.go:63 nilCheck
          refine QL.v (fun w st => by exact r_nilCheck rfl) rfl rfl rfl ?_
          -- R6.10 54 := heap.go:63 fieldAddr
          refine QL.v (fun w st => by exact r_field ty_fld80_0 rfl) rfl rfl rfl ?_
          -- R6.11 55 := heap.go:63 load
          refine QL.v (fun w st => by exact r_load1 ty_one78 rfl (by first | assumption | exact st.c0 (by first | decide | omega) | exact st.c1 (by first | decide | omega) | exact st.c2 (by first | decide | omega) | exact st.c3 (by first | decide | omega) | exact st.c4 (by first | decide | omega) | exact st.c5 (by first | decide | omega) | exact st.c6 (by first | decide | omega) | exact st.c7 (by first | decide | omega) | exact st.c8 (by first | decide | omega))) rfl rfl rfl ?_
          -- R6.12 56 := heap.go:63 move
          refine QL.v (fun w st => by first | exact r_move (v := .int _ _) rfl | exact r_move rfl) rfl rfl rfl ?_
          -- R6.13 57 := heap.go:63 indexAddr
          refine QL.v (fun w st => by exact r_indexS (j := 2 * i + 2) ty_sl78 rfl rfl (by omega) (by omega)) rfl rfl rfl ?_
          -- R6.14 58 := heap.go:63 load
          refine QL.v (fun w st => by exact r_loadL (vs := [_, _]) ty_agg67 rfl ⟨((st.c1 (by omega)).trans (congrArg some (hit (2 * i + 2) (by omega)).1)), ((st.c1 (by omega)).trans (congrArg some (hit (2 * i + 2) (by omega)).2)), trivial⟩) rfl rfl rfl ?_
          -- R6.15 59 := heap.go:63 move
          refine QL.v (fun w st => by first | exact r_move (v := .pointer _) rfl | exact r_move rfl) rfl rfl rfl ?_
          -- R6.16 60 := heap.go:63 nilCheck
          refine QL.v (fun w st => by exact r_nilCheck rfl) rfl rfl rfl ?_
          -- R6.17 61 := heap.go:63 fieldAddr
          refine QL.v (fun w st => by exact r_field ty_fld80_0 rfl) rfl rfl rfl ?_
          -- R6.18 62 := heap.go:63 load
          refine QL.v (fun w st => by exact r_load1 ty_one78 rfl (by first | assumption | exact st.c0 (by first | decide | omega) | exact st.c1 (by first | decide | omega) | exact st.c2 (by first | decide | omega) | exact st.c3 (by first | decide | omega) | exact st.c4 (by first | decide | omega) | exact st.c5 (by first | decide | omega) | exact st.c6 (by first | decide | omega) | exact st.c7 (by first | decide | omega) | exact st.c8 (by first | decide | omega))) rfl rfl rfl ?_
          -- R6.19 63 := heap.go:63 move
          refine QL.v (fun w st => by first | exact r_move (v := .int _ _) rfl | exact r_move rfl) rfl rfl rfl ?_
          -- R6.20 64 := heap.go:63 indexAddr
          refine QL.v (fun w st => by exact r_indexS (j := 2 * i + 1) ty_sl78 rfl rfl (by omega) (by omega)) rfl rfl rfl ?_
          -- R6.21 65 := heap.go:63 load
          refine QL.v (fun w st => by exact r_loadL (vs := [_, _]) ty_agg67 rfl ⟨((st.c1 (by omega)).trans (congrArg some (hit (2 * i + 1) (by omega)).1)), ((st.c1 (by omega)).trans (congrArg some (hit (2 * i + 1) (by omega)).2)), trivial⟩) rfl rfl rfl ?_
          -- R6.22 66 := heap.go:63 call
          refine QL.call (val := .bool false) (fun w st => r_callv ty_call13 rfl rfl) rfl rfl rfl (fun w st => less_true (hG.more [_, _]) (hokj _ (by omega)) (hokj _ (by omega)) false (decide_eq_false hrl) st) ?_
          -- R6.23 67 := heap.go:63 pick
          refine QL.v (fun w st => by first | exact r_pickT (v := .bool _) rfl rfl | exact r_pickF (v := .bool _) rfl rfl) rfl rfl rfl ?_
          refine QL.wl hKq fun w st => ?_
          refine WL.fin hK380 (fun _ _ h => h) ?_
          refine WC.condF rfl rfl ?_
          refine WC.skipF hK378 (fun _ _ h => h) ?_
          refine WC.seq fun K381 hK381 => ?_
          refine WC.seq fun K382 hK382 => ?_
          -- region 8
          refine WC.region ?_
          -- R8.0 69 := heap.go:66 move
          refine WL.v (by first | exact r_move (v := .int _ _) rfl | exact r_move rfl) rfl rfl rfl ?_
          -- R8.1 70 := heap.go:66 move
          refine WL.v (by first | exact r_move (v := .int _ _) rfl | exact r_move rfl) rfl rfl rfl ?_
          -- R8.2 71 := heap.go:66 binOp
          refine WL.v (by first | exact r_eql rfl rfl (decide_eq_true (by omega)) | exact r_eql rfl rfl (decide_eq_false (by omega)) | exact r_eql rfl rfl rfl) rfl rfl rfl ?_
          refine WL.fin hK382 (fun _ _ h => h) ?_
          refine WC.condF rfl rfl ?_
          refine WC.skipF hK381 (fun _ _ h => h) ?_
          refine WC.seq fun K383 hK383 => ?_
          -- region 9 (draws)
          refine WC.heldS2 [25, 26, 27] [0, 1, 2, 3, 5, 6, 7, 8, 10, 11, 12, 13, 14, 15, 16, 17, 18, 19, 20, 21, 22, 23] [4, 9, 24] [25, 26, 27] st (st) ty_mixed (by kernel_rfl) fun w st Kq Kq2 hKq hKq2 => ?_
          -- R9.0 72 := heap.go:69 move
          refine HL.v (fun w st => by first | exact r_move (v := .pointer _) rfl | exact r_move rfl) rfl rfl rfl ?_
          -- R9.1 73 := heap.go:69 nilCheck
          refine HL.v (fun w st => by exact r_nilCheck rfl) rfl rfl rfl ?_
          -- R9.2 74 := heap.go:69 fieldAddr
          refine HL.v (fun w st => by exact r_field ty_fld80_0 rfl) rfl rfl rfl ?_
          -- R9.3 75 := heap.go:69 load
          refine HL.v (fun w st => by exact r_load1 ty_one78 rfl (by first | assumption | exact st.c0 (by first | decide | omega) | exact st.c1 (by first | decide | omega) | exact st.c2 (by first | decide | omega) | exact st.c3 (by first | decide | omega) | exact st.c4 (by first | decide | omega) | exact st.c5 (by first | decide | omega) | exact st.c6 (by first | decide | omega) | exact st.c7 (by first | decide | omega) | exact st.c8 (by first | decide | omega))) rfl rfl rfl ?_
          -- R9.5 77 := heap.go:69 move
          refine HL.v (fun w st => by first | exact r_move (v := .pointer _) rfl | exact r_move rfl) rfl rfl rfl ?_
          -- R9.6 78 := heap.go:69 nilCheck
          refine HL.v (fun w st => by exact r_nilCheck rfl) rfl rfl rfl ?_
          -- R9.7 79 := heap.go:69 fieldAddr
          refine HL.v (fun w st => by exact r_field ty_fld80_0 rfl) rfl rfl rfl ?_
          -- R9.8 80 := heap.go:69 load
          refine HL.v (fun w st => by exact r_load1 ty_one78 rfl (by first | assumption | exact st.c0 (by first | decide | omega) | exact st.c1 (by first | decide | omega) | exact st.c2 (by first | decide | omega) | exact st.c3 (by first | decide | omega) | exact st.c4 (by first | decide | omega) | exact st.c5 (by first | decide | omega) | exact st.c6 (by first | decide | omega) | exact st.c7 (by first | decide | omega) | exact st.c8 (by first | decide | omega))) rfl rfl rfl ?_
          -- R9.10 82 := heap.go:69 move
          refine HL.v (fun w st => by first | exact r_move (v := .pointer _) rfl | exact r_move rfl) rfl rfl rfl ?_
          -- R9.11 83 := heap.go:69 nilCheck
          refine HL.v (fun w st => by exact r_nilCheck rfl) rfl rfl rfl ?_
          -- R9.12 84 := heap.go:69 fieldAddr
          refine HL.v (fun w st => by exact r_field ty_fld80_0 rfl) rfl rfl rfl ?_
          -- R9.13 85 := heap.go:69 load
          refine HL.v (fun w st => by exact r_load1 ty_one78 rfl (by first | assumption | exact st.c0 (by first | decide | omega) | exact st.c1 (by first | decide | omega) | exact st.c2 (by first | decide | omega) | exact st.c3 (by first | decide | omega) | exact st.c4 (by first | decide | omega) | exact st.c5 (by first | decide | omega) | exact st.c6 (by first | decide | omega) | exact st.c7 (by first | decide | omega) | exact st.c8 (by first | decide | omega))) rfl rfl rfl ?_
          -- R9.14 86 := heap.go:69 move
          refine HL.v (fun w st => by first | exact r_move (v := .int _ _) rfl | exact r_move rfl) rfl rfl rfl ?_
          -- R9.15 87 := heap.go:69 indexAddr
          refine HL.v (fun w st => by exact r_indexS (j := 2 * i + 1) ty_sl78 rfl rfl (by omega) (by omega)) rfl rfl rfl ?_
          -- R9.16 88 := heap.go:69 load
          refine HL.v (fun w st => by exact r_loadL (vs := [_, _]) ty_agg67 rfl ⟨((st.c1 (by omega)).trans (congrArg some (hit (2 * i + 1) (by omega)).1)), ((st.c1 (by omega)).trans (congrArg some (hit (2 * i + 1) (by omega)).2)), trivial⟩) rfl rfl rfl ?_
          -- R9.17 89 := heap.go:69 move
          refine HL.v (fun w st => by first | exact r_move (v := .pointer _) rfl | exact r_move rfl) rfl rfl rfl ?_
          -- R9.18 90 := heap.go:69 nilCheck
          refine HL.v (fun w st => by exact r_nilCheck rfl) rfl rfl rfl ?_
          -- R9.19 91 := heap.go:69 fieldAddr
          refine HL.v (fun w st => by exact r_field ty_fld80_0 rfl) rfl rfl rfl ?_
          -- R9.20 92 := heap.go:69 load
          refine HL.v (fun w st => by exact r_load1 ty_one78 rfl (by first | assumption | exact st.c0 (by first | decide | omega) | exact st.c1 (by first | decide | omega) | exact st.c2 (by first | decide | omega) | exact st.c3 (by first | decide | omega) | exact st.c4 (by first | decide | omega) | exact st.c5 (by first | decide | omega) | exact st.c6 (by first | decide | omega) | exact st.c7 (by first | decide | omega) | exact st.c8 (by first | decide | omega))) rfl rfl rfl ?_
          -- R9.21 93 := heap.go:69 move
          refine HL.v (fun w st => by first | exact r_move (v := .int _ _) rfl | exact r_move rfl) rfl rfl rfl ?_
          -- R9.22 94 := heap.go:69 indexAddr
          refine HL.v (fun w st => by exact r_indexS (j := i) ty_sl78 rfl rfl (by omega) (by omega)) rfl rfl rfl ?_
          -- R9.23 95 := heap.go:69 load
          refine HL.v (fun w st => by exact r_loadL (vs := [_, _]) ty_agg67 rfl ⟨((st.c1 (by omega)).trans (congrArg some (hit i (by omega)).1)), ((st.c1 (by omega)).trans (congrArg some (hit i (by omega)).2)), trivial⟩) rfl rfl rfl ?_
          refine HL.pure hKq ?_
          -- R9.4 76 := heap.go:69 move
          refine HL.v (fun w _ => by first | exact r_move (v := .int _ _) rfl | exact r_move rfl) rfl rfl rfl ?_
          -- R9.9 81 := heap.go:69 move
          refine HL.v (fun w _ => by first | exact r_move (v := .int _ _) rfl | exact r_move rfl) rfl rfl rfl ?_
          -- R9.24 96 := heap.go:69 indexAddr
          refine HL.v (fun w _ => by exact r_indexS (j := i) ty_sl78 rfl rfl (by omega) (by omega)) rfl rfl rfl ?_
          refine HL.fin hKq2 ?_
          refine TL.at ?_
          -- R9.25 None := heap.go:69 store
          first | refine WL.storeW (vs := [_, _]) st ty_agg67 rfl rfl rfl rfl rfl rfl ?_ | refine WL.storeL (vs := [_, _]) st ty_agg67 rfl rfl rfl rfl (by first | decide | omega) rfl rfl ?_ | refine WL.storeW (vs := [_, _]) st.front1 ty_agg67 rfl rfl rfl rfl rfl rfl ?_ | refine WL.storeL (vs := [_, _]) st.front1 ty_agg67 rfl rfl rfl rfl (by first | decide | omega) rfl rfl ?_ | refine WL.storeW (vs := [_, _]) st.front2 ty_agg67 rfl rfl rfl rfl rfl rfl ?_ | refine WL.storeL (vs := [_, _]) st.front2 ty_agg67 rfl rfl rfl rfl (by first | decide | omega) rfl rfl ?_ | refine WL.storeW (vs := [_, _]) st.front3 ty_agg67 rfl rfl rfl rfl rfl rfl ?_ | refine WL.storeL (vs := [_, _]) st.front3 ty_agg67 rfl rfl rfl rfl (by first | decide | omega) rfl rfl ?_ | refine WL.storeW (vs := [_, _]) st.front4 ty_agg67 rfl rfl rfl rfl rfl rfl ?_ | refine WL.storeL (vs := [_, _]) st.front4 ty_agg67 rfl rfl rfl rfl (by first | decide | omega) rfl rfl ?_ | refine WL.storeW (vs := [_, _]) st.front5 ty_agg67 rfl rfl rfl rfl rfl rfl ?_ | refine WL.storeL (vs := [_, _]) st.front5 ty_agg67 rfl rfl rfl rfl (by first | decide | omega) rfl rfl ?_ | refine WL.storeW (vs := [_, _]) st.front6 ty_agg67 rfl rfl rfl rfl rfl rfl ?_ | refine WL.storeL (vs := [_, _]) st.front6 ty_agg67 rfl rfl rfl rfl (by first | decide | omega) rfl rfl ?_ | refine WL.storeW (vs := [_, _]) st.front7 ty_agg67 rfl rfl rfl rfl rfl rfl ?_ | refine WL.storeL (vs := [_, _]) st.front7 ty_agg67 rfl rfl rfl rfl (by first | decide | omega) rfl rfl ?_ | refine WL.storeW (vs := [_, _]) st.front8 ty_agg67 rfl rfl rfl rfl rfl rfl ?_ | refine WL.storeL (vs := [_, _]) st.front8 ty_agg67 rfl rfl rfl rfl (by first | decide | omega) rfl rfl ?_
          intro w st
          refine TL.nxt' rfl ?_
          refine TL.at ?_
          -- R9.26 97 := heap.go:69 indexAddr
          refine WL.v (by exact r_indexS (j := 2 * i + 1) ty_sl78 rfl rfl (by omega) (by omega)) rfl rfl rfl ?_
          refine TL.nxt' rfl ?_
          refine TL.at ?_
          -- R9.27 None := heap.go:69 store
          first | refine WL.storeW (vs := [_, _]) st ty_agg67 rfl rfl rfl rfl rfl rfl ?_ | refine WL.storeL (vs := [_, _]) st ty_agg67 rfl rfl rfl rfl (by first | decide | omega) rfl rfl ?_ | refine WL.storeW (vs := [_, _]) st.front1 ty_agg67 rfl rfl rfl rfl rfl rfl ?_ | refine WL.storeL (vs := [_, _]) st.front1 ty_agg67 rfl rfl rfl rfl (by first | decide | omega) rfl rfl ?_ | refine WL.storeW (vs := [_, _]) st.front2 ty_agg67 rfl rfl rfl rfl rfl rfl ?_ | refine WL.storeL (vs := [_, _]) st.front2 ty_agg67 rfl rfl rfl rfl (by first | decide | omega) rfl rfl ?_ | refine WL.storeW (vs := [_, _]) st.front3 ty_agg67 rfl rfl rfl rfl rfl rfl ?_ | refine WL.storeL (vs := [_, _]) st.front3 ty_agg67 rfl rfl rfl rfl (by first | decide | omega) rfl rfl ?_ | refine WL.storeW (vs := [_, _]) st.front4 ty_agg67 rfl rfl rfl rfl rfl rfl ?_ | refine WL.storeL (vs := [_, _]) st.front4 ty_agg67 rfl rfl rfl rfl (by first | decide | omega) rfl rfl ?_ | refine WL.storeW (vs := [_, _]) st.front5 ty_agg67 rfl rfl rfl rfl rfl rfl ?_ | refine WL.storeL (vs := [_, _]) st.front5 ty_agg67 rfl rfl rfl rfl (by first | decide | omega) rfl rfl ?_ | refine WL.storeW (vs := [_, _]) st.front6 ty_agg67 rfl rfl rfl rfl rfl rfl ?_ | refine WL.storeL (vs := [_, _]) st.front6 ty_agg67 rfl rfl rfl rfl (by first | decide | omega) rfl rfl ?_ | refine WL.storeW (vs := [_, _]) st.front7 ty_agg67 rfl rfl rfl rfl rfl rfl ?_ | refine WL.storeL (vs := [_, _]) st.front7 ty_agg67 rfl rfl rfl rfl (by first | decide | omega) rfl rfl ?_ | refine WL.storeW (vs := [_, _]) st.front8 ty_agg67 rfl rfl rfl rfl rfl rfl ?_ | refine WL.storeL (vs := [_, _]) st.front8 ty_agg67 rfl rfl rfl rfl (by first | decide | omega) rfl rfl ?_
          intro w st
          refine TL.nxt' rfl ?_
          refine TL.wl ?_
          refine WL.fin hK383 (fun _ _ h => h) ?_
          -- region 10
          refine WC.region ?_
          -- R10.0 98 := heap.go:70 move
          refine WL.v (by first | exact r_move (v := .int _ _) rfl | exact r_move rfl) rfl rfl rfl ?_
          -- R10.1 2 := heap.go:70 assign
          refine WL.v (by first | exact r_assign (v := .int _ _) rfl | exact r_assign rfl) rfl rfl rfl ?_
          refine WL.next hK1 (fun _ _ h => h) (2 * i + 1, _, swp jt i (2 * i + 1)) ⟨st.front1, ((hit.set (jt (2 * i + 1))).set (jt i)).congr (fun k hk => swp_set (by omega) k), hdn.step hl (.inl rfl) hll (fun k h0 hk he => ?_), (swp_perm jt (by omega) hl).trans hperm, by show 2 * i + 1 ≤ n; omega⟩ (by show n - (2 * i + 1) < n - i; omega) (by repeat (first | exact sub_nil _ | refine sub_cons rfl rfl ?_))
          have hk' : k = 2 * i + 1 ∨ k = 2 * i + 2 := by omega
          rcases hk' with rfl | rfl
          · exact Int.le_refl _
          · exact Int.not_lt.1 hrl
      · skip
        refine WC.block ?_
        refine WC.seq fun K384 hK384 => ?_
        -- region 1
        refine WC.region ?_
        -- R1.0 12 := heap.go:59 move
        refine WL.v (by first | exact r_move (v := .int _ _) rfl | exact r_move rfl) rfl rfl rfl ?_
        -- R1.1 4 := heap.go:59 assign
        refine WL.v (by first | exact r_assign (v := .int _ _) rfl | exact r_assign rfl) rfl rfl rfl ?_
        refine WL.fin hK384 (fun _ _ h => h) ?_
        refine WC.seq fun K385 hK385 => ?_
        refine WC.seq fun K386 hK386 => ?_
        -- region 2
        refine WC.region ?_
        -- R2.0 13 := heap.go:60 move
        refine WL.v (by first | exact r_move (v := .int _ _) rfl | exact r_move rfl) rfl rfl rfl ?_
        -- R2.1 14 := heap.go:60 binOp
        refine WL.v (by exact r_mul (r := ((2 * i : Nat) : Int)) rfl rfl (by rw [wi64 (by omega) (by omega)]; omega)) rfl rfl rfl ?_
        -- R2.2 15 := heap.go:60 binOp
        refine WL.v (by exact r_add (r := ((2 * i + 1 : Nat) : Int)) rfl rfl (by rw [wi64 (by omega) (by omega)]; omega)) rfl rfl rfl ?_
        -- R2.3 5 := heap.go:60 assign
        refine WL.v (by first | exact r_assign (v := .int _ _) rfl | exact r_assign rfl) rfl rfl rfl ?_
        refine WL.fin hK386 (fun _ _ h => h) ?_
        refine WC.seq fun K387 hK387 => ?_
        -- region 3 (draws)
        refine WC.quietS st ty_mixed (by kernel_rfl) fun Kq hKq => ?_
        -- R3.0 16 := heap.go:60 move
        refine QL.v (fun w st => by first | exact r_move (v := .int _ _) rfl | exact r_move rfl) rfl rfl rfl ?_
        -- R3.1 17 := heap.go:60 move
        refine QL.v (fun w st => by first | exact r_move (v := .int _ _) rfl | exact r_move rfl) rfl rfl rfl ?_
        -- R3.2 18 := heap.go:60 binOp
        refine QL.v (fun w st => by first | exact r_lss rfl rfl (decide_eq_true (by omega)) | exact r_lss rfl rfl (decide_eq_false (by omega)) | exact r_lss rfl rfl rfl) rfl rfl rfl ?_
        -- R3.3 19 := heap.go:60 move
        refine QL.v (fun w st => by first | exact r_move (v := .bool _) rfl | exact r_move rfl) rfl rfl rfl ?_
        -- R3.4 20 := heap.go:60 move
        refine QL.v (fun w st => by first | exact r_move (v := .pointer _) rfl | exact r_move rfl) rfl rfl rfl ?_
        -- R3.5 21 := heap.go:60 nilCheck
        refine QL.v (fun w st => by exact r_nilCheck rfl) rfl rfl rfl ?_
        -- R3.6 22 := heap.go:60 fieldAddr
        refine QL.v (fun w st => by exact r_field ty_fld80_1 rfl) rfl rfl rfl ?_
        -- R3.7 23 := heap.go:60 load
        refine QL.v (fun w st => by exact r_load1 ty_one71 rfl (by first | assumption | exact st.c0 (by first | decide | omega) | exact st.c1 (by first | decide | omega) | exact st.c2 (by first | decide | omega) | exact st.c3 (by first | decide | omega) | exact st.c4 (by first | decide | omega) | exact st.c5 (by first | decide | omega) | exact st.c6 (by first | decide | omega) | exact st.c7 (by first | decide | omega) | exact st.c8 (by first | decide | omega))) rfl rfl rfl ?_
        -- R3.8 24 := heap.go:60 move
        refine QL.v (fun w st => by first | exact r_move (v := .pointer _) rfl | exact r_move rfl) rfl rfl rfl ?_
        -- R3.9 25 := heap.go:60 nilCheck
        refine QL.v (fun w st => by exact r_nilCheck rfl) rfl rfl rfl ?_
        -- R3.10 26 := heap.go:60 fieldAddr
        refine QL.v (fun w st => by exact r_field ty_fld80_0 rfl) rfl rfl rfl ?_
        -- R3.11 27 := heap.go:60 load
        refine QL.v (fun w st => by exact r_load1 ty_one78 rfl (by first | assumption | exact st.c0 (by first | decide | omega) | exact st.c1 (by first | decide | omega) | exact st.c2 (by first | decide | omega) | exact st.c3 (by first | decide | omega) | exact st.c4 (by first | decide | omega) | exact st.c5 (by first | decide | omega) | exact st.c6 (by first | decide | omega) | exact st.c7 (by first | decide | omega) | exact st.c8 (by first | decide | omega))) rfl rfl rfl ?_
        -- R3.12 28 := heap.go:60 move
        refine QL.v (fun w st => by first | exact r_move (v := .int _ _) rfl | exact r_move rfl) rfl rfl rfl ?_
        -- R3.13 29 := heap.go:60 indexAddr
        refine QL.v (fun w st => by exact r_indexS (j := 2 * i + 1) ty_sl78 rfl rfl (by omega) (by omega)) rfl rfl rfl ?_
        -- R3.14 30 := heap.go:60 load
        refine QL.v (fun w st => by exact r_loadL (vs := [_, _]) ty_agg67 rfl ⟨((st.c1 (by omega)).trans (congrArg some (hit (2 * i + 1) (by omega)).1)), ((st.c1 (by omega)).trans (congrArg some (hit (2 * i + 1) (by omega)).2)), trivial⟩) rfl rfl rfl ?_
        -- R3.15 31 := heap.go:60 move
        refine QL.v (fun w st => by first | exact r_move (v := .pointer _) rfl | exact r_move rfl) rfl rfl rfl ?_
        -- R3.16 32 := heap.go:60 nilCheck
        refine QL.v (fun w st => by exact r_nilCheck rfl) rfl rfl rfl ?_
        -- R3.17 33 := heap.go:60 fieldAddr
        refine QL.v (fun w st => by exact r_field ty_fld80_0 rfl) rfl rfl rfl ?_
        -- R3.18 34 := heap.go:60 load
        refine QL.v (fun w st => by exact r_load1 ty_one78 rfl (by first | assumption | exact st.c0 (by first | decide | omega) | exact st.c1 (by first | decide | omega) | exact st.c2 (by first | decide | omega) | exact st.c3 (by first | decide | omega) | exact st.c4 (by first | decide | omega) | exact st.c5 (by first | decide | omega) | exact st.c6 (by first | decide | omega) | exact st.c7 (by first | decide | omega) | exact st.c8 (by first | decide | omega))) rfl rfl rfl ?_
        -- R3.19 35 := heap.go:60 move
        refine QL.v (fun w st => by first | exact r_move (v := .int _ _) rfl | exact r_move rfl) rfl rfl rfl ?_
        -- R3.20 36 := heap.go:60 indexAddr
        refine QL.v (fun w st => by exact r_indexS (j := i) ty_sl78 rfl rfl (by omega) (by omega)) rfl rfl rfl ?_
        -- R3.21 37 := heap.go:60 load
        refine QL.v (fun w st => by exact r_loadL (vs := [_, _]) ty_agg67 rfl ⟨((st.c1 (by omega)).trans (congrArg some (hit i (by omega)).1)), ((st.c1 (by omega)).trans (congrArg some (hit i (by omega)).2)), trivial⟩) rfl rfl rfl ?_
        -- R3.22 38 := heap.go:60 call
        refine QL.call (val := .bool true) (fun w st => r_callv ty_call13 rfl rfl) rfl rfl rfl (fun w st => less_true (hG.more [_, _]) (hokj _ (by omega)) (hokj _ (by omega)) true (decide_eq_true hll) st) ?_
        -- R3.23 39 := heap.go:60 pick
        refine QL.v (fun w st => by first | exact r_pickT (v := .bool _) rfl rfl | exact r_pickF (v := .bool _) rfl rfl) rfl rfl rfl ?_
        refine QL.wl hKq fun w st => ?_
        refine WL.fin hK387 (fun _ _ h => h) ?_
        refine WC.condT rfl rfl ?_
        -- region 4
        refine WC.region ?_
        -- R4.0 40 := heap.go:61 move
        refine WL.v (by first | exact r_move (v := .int _ _) rfl | exact r_move rfl) rfl rfl rfl ?_
        -- R4.1 4 := heap.go:61 assign
        refine WL.v (by first | exact r_assign (v := .int _ _) rfl | exact r_assign rfl) rfl rfl rfl ?_
        refine WL.fin hK385 (fun _ _ h => h) ?_
        refine WC.seq fun K388 hK388 => ?_
        refine WC.seq fun K389 hK389 => ?_
        -- region 5
        refine WC.region ?_
        -- R5.0 41 := heap.go:63 move
        refine WL.v (by first | exact r_move (v := .int _ _) rfl | exact r_move rfl) rfl rfl rfl ?_
        -- R5.1 42 := heap.go:63 binOp
        refine WL.v (by exact r_mul (r := ((2 * i : Nat) : Int)) rfl rfl (by rw [wi64 (by omega) (by omega)]; omega)) rfl rfl rfl ?_
        -- R5.2 43 := heap.go:63 binOp
        refine WL.v (by exact r_add (r := ((2 * i + 2 : Nat) : Int)) rfl rfl (by rw [wi64 (by omega) (by omega)]; omega)) rfl rfl rfl ?_
        -- R5.3 6 := heap.go:63 assign
        refine WL.v (by first | exact r_assign (v := .int _ _) rfl | exact r_assign rfl) rfl rfl rfl ?_
        refine WL.fin hK389 (fun _ _ h => h) ?_
        refine WC.seq fun K390 hK390 => ?_
        -- region 6 (draws)
        refine WC.quietS st ty_mixed (by kernel_rfl) fun Kq hKq => ?_
        -- R6.0 44 := heap.go:63 move
        refine QL.v (fun w st => by first | exact r_move (v := .int _ _) rfl | exact r_move rfl) rfl rfl rfl ?_
        -- R6.1 45 := heap.go:63 move
        refine QL.v (fun w st => by first | exact r_move (v := .int _ _) rfl | exact r_move rfl) rfl rfl rfl ?_
        -- R6.2 46 := heap.go:63 binOp
        refine QL.v (fun w st => by first | exact r_lss rfl rfl (decide_eq_true (by omega)) | exact r_lss rfl rfl (decide_eq_false (by omega)) | exact r_lss rfl rfl rfl) rfl rfl rfl ?_
        -- R6.3 47 := heap.go:63 move
        refine QL.v (fun w st => by first | exact r_move (v := .bool _) rfl | exact r_move rfl) rfl rfl rfl ?_
        -- R6.4 48 := heap.go:63 move
        refine QL.no rfl rfl ?_
        -- R6.5 49 := heap.go:63 nilCheck
        refine QL.no rfl rfl ?_
        -- R6.6 50 := heap.go:63 fieldAddr
        refine QL.no rfl rfl ?_
        -- R6.7 51 := heap.go:63 load
        refine QL.no rfl rfl ?_
        -- R6.8 52 := heap.go:63 move
        refine QL.no rfl rfl ?_
        -- R6.9 53 := heap.go:63 nilCheck
        refine QL.no rfl rfl ?_
        -- R6.10 54 := heap.go:63 fieldAddr
        refine QL.no rfl rfl ?_
        -- R6.11 55 := heap.go:63 load
        refine QL.no rfl rfl ?_
        -- R6.12 56 := heap.go:63 move
        refine QL.no rfl rfl ?_
        -- R6.13 57 := heap.go:63 indexAddr
        refine QL.no rfl rfl ?_
        -- R6.14 58 := heap.go:63 load
        refine QL.no rfl rfl ?_
        -- R6.15 59 := heap.go:63 move
        refine QL.no rfl rfl ?_
        -- R6.16 60 := heap.go:63 nilCheck
        refine QL.no rfl rfl ?_
        -- R6.17 61 := heap.go:63 fieldAddr
        refine QL.no rfl rfl ?_
        -- R6.18 62 := heap.go:63 load
        refine QL.no rfl rfl ?_
        -- R6.19 63 := heap.go:63 move
        refine QL.no rfl rfl ?_
        -- R6.20 64 := heap.go:63 indexAddr
        refine QL.no rfl rfl ?_
        -- R6.21 65 := heap.go:63 load
        refine QL.no rfl rfl ?_
        -- R6.22 66 := heap.go:63 call
        refine QL.no rfl rfl ?_
        -- R6.23 67 := heap.go:63 pick
        refine QL.v (fun w st => by first | exact r_pickT (v := .bool _) rfl rfl | exact r_pickF (v := .bool _) rfl rfl) rfl rfl rfl ?_
        refine QL.wl hKq fun w st => ?_
        refine WL.fin hK390 (fun _ _ h => h) ?_
        refine WC.condF rfl rfl ?_
        refine WC.skipF hK388 (fun _ _ h => h) ?_
        refine WC.seq fun K391 hK391 => ?_
        refine WC.seq fun K392 hK392 => ?_
        -- region 8
        refine WC.region ?_
        -- R8.0 69 := heap.go:66 move
        refine WL.v (by first | exact r_move (v := .int _ _) rfl | exact r_move rfl) rfl rfl rfl ?_
        -- R8.1 70 := heap.go:66 move
        refine WL.v (by first | exact r_move (v := .int _ _) rfl | exact r_move rfl) rfl rfl rfl ?_
        -- R8.2 71 := heap.go:66 binOp
        refine WL.v (by first | exact r_eql rfl rfl (decide_eq_true (by omega)) | exact r_eql rfl rfl (decide_eq_false (by omega)) | exact r_eql rfl rfl rfl) rfl rfl rfl ?_
        refine WL.fin hK392 (fun _ _ h => h) ?_
        refine WC.condF rfl rfl ?_
        refine WC.skipF hK391 (fun _ _ h => h) ?_
        refine WC.seq fun K393 hK393 => ?_
        -- region 9 (draws)
        refine WC.heldS2 [25, 26, 27] [0, 1, 2, 3, 5, 6, 7, 8, 10, 11, 12, 13, 14, 15, 16, 17, 18, 19, 20, 21, 22, 23] [4, 9, 24] [25, 26, 27] st (st) ty_mixed (by kernel_rfl) fun w st Kq Kq2 hKq hKq2 => ?_
        -- R9.0 72 := heap.go:69 move
        refine HL.v (fun w st => by first | exact r_move (v := .pointer _) rfl | exact r_move rfl) rfl rfl rfl ?_
        -- R9.1 73 := heap.go:69 nilCheck
        refine HL.v (fun w st => by exact r_nilCheck rfl) rfl rfl rfl ?_
        -- R9.2 74 := heap.go:69 fieldAddr
        refine HL.v (fun w st => by exact r_field ty_fld80_0 rfl) rfl rfl rfl ?_
        -- R9.3 75 := heap.go:69 load
        refine HL.v (fun w st => by exact r_load1 ty_one78 rfl (by first | assumption | exact st.c0 (by first | decide | omega) | exact st.c1 (by first | decide | omega) | exact st.c2 (by first | decide | omega) | exact st.c3 (by first | decide | omega) | exact st.c4 (by first | decide | omega) | exact st.c5 (by first | decide | omega) | exact st.c6 (by first | decide | omega) | exact st.c7 (by first | decide | omega) | exact st.c8 (by first | decide | omega))) rfl rfl rfl ?_
        -- R9.5 77 := heap.go:69 move
        refine HL.v (fun w st => by first | exact r_move (v := .pointer _) rfl | exact r_move rfl) rfl rfl rfl ?_
        -- R9.6 78 := heap.go:69 nilCheck
        refine HL.v (fun w st => by exact r_nilCheck rfl) rfl rfl rfl ?_
        -- R9.7 79 := heap.go:69 fieldAddr
        refine HL.v (fun w st => by exact r_field ty_fld80_0 rfl) rfl rfl rfl ?_
        -- R9.8 80 := heap.go:69 load
        refine HL.v (fun w st => by exact r_load1 ty_one78 rfl (by first | assumption | exact st.c0 (by first | decide | omega) | exact st.c1 (by first | decide | omega) | exact st.c2 (by first | decide | omega) | exact st.c3 (by first | decide | omega) | exact st.c4 (by first | decide | omega) | exact st.c5 (by first | decide | omega) | exact st.c6 (by first | decide | omega) | exact st.c7 (by first | decide | omega) | exact st.c8 (by first | decide | omega))) rfl rfl rfl ?_
        -- R9.10 82 := heap.go:69 move
        refine HL.v (fun w st => by first | exact r_move (v := .pointer _) rfl | exact r_move rfl) rfl rfl rfl ?_
        -- R9.11 83 := heap.go:69 nilCheck
        refine HL.v (fun w st => by exact r_nilCheck rfl) rfl rfl rfl ?_
        -- R9.12 84 := heap.go:69 fieldAddr
        refine HL.v (fun w st => by exact r_field ty_fld80_0 rfl) rfl rfl rfl ?_
        -- R9.13 85 := heap.go:69 load
        refine HL.v (fun w st => by exact r_load1 ty_one78 rfl (by first | assumption | exact st.c0 (by first | decide | omega) | exact st.c1 (by first | decide | omega) | exact st.c2 (by first | decide | omega) | exact st.c3 (by first | decide | omega) | exact st.c4 (by first | decide | omega) | exact st.c5 (by first | decide | omega) | exact st.c6 (by first | decide | omega) | exact st.c7 (by first | decide | omega) | exact st.c8 (by first | decide | omega))) rfl rfl rfl ?_
        -- R9.14 86 := heap.go:69 move
        refine HL.v (fun w st => by first | exact r_move (v := .int _ _) rfl | exact r_move rfl) rfl rfl rfl ?_
        -- R9.15 87 := heap.go:69 indexAddr
        refine HL.v (fun w st => by exact r_indexS (j := 2 * i + 1) ty_sl78 rfl rfl (by omega) (by omega)) rfl rfl rfl ?_
        -- R9.16 88 := heap.go:69 load
        refine HL.v (fun w st => by exact r_loadL (vs := [_, _]) ty_agg67 rfl ⟨((st.c1 (by omega)).trans (congrArg some (hit (2 * i + 1) (by omega)).1)), ((st.c1 (by omega)).trans (congrArg some (hit (2 * i + 1) (by omega)).2)), trivial⟩) rfl rfl rfl ?_
        -- R9.17 89 := heap.go:69 move
        refine HL.v (fun w st => by first | exact r_move (v := .pointer _) rfl | exact r_move rfl) rfl rfl rfl ?_
        -- R9.18 90 := heap.go:69 nilCheck
        refine HL.v (fun w st => by exact r_nilCheck rfl) rfl rfl rfl ?_
        -- R9.19 91 := heap.go:69 fieldAddr
        refine HL.v (fun w st => by exact r_field ty_fld80_0 rfl) rfl rfl rfl ?_
        -- R9.20 92 := heap.go:69 load
        refine HL.v (fun w st => by exact r_load1 ty_one78 rfl (by first | assumption | exact st.c0 (by first | decide | omega) | exact st.c1 (by first | decide | omega) | exact st.c2 (by first | decide | omega) | exact st.c3 (by first | decide | omega) | exact st.c4 (by first | decide | omega) | exact st.c5 (by first | decide | omega) | exact st.c6 (by first | decide | omega) | exact st.c7 (by first | decide | omega) | exact st.c8 (by first | decide | omega))) rfl rfl rfl ?_
        -- R9.21 93 := heap.go:69 move
        refine HL.v (fun w st => by first | exact r_move (v := .int _ _) rfl | exact r_move rfl) rfl rfl rfl ?_
        -- R9.22 94 := heap.go:69 indexAddr
        refine HL.v (fun w st => by exact r_indexS (j := i) ty_sl78 rfl rfl (by omega) (by omega)) rfl rfl rfl ?_
        -- R9.23 95 := heap.go:69 load
        refine HL.v (fun w st => by exact r_loadL (vs := [_, _]) ty_agg67 rfl ⟨((st.c1 (by omega)).trans (congrArg some (hit i (by omega)).1)), ((st.c1 (by omega)).trans (congrArg some (hit i (by omega)).2)), trivial⟩) rfl rfl rfl ?_
        refine HL.pure hKq ?_
        -- R9.4 76 := heap.go:69 move
        refine HL.v (fun w _ => by first | exact r_move (v := .int _ _) rfl | exact r_move rfl) rfl rfl rfl ?_
        -- R9.9 81 := heap.go:69 move
        refine HL.v (fun w _ => by first | exact r_move (v := .int _ _) rfl | exact r_move rfl) rfl rfl rfl ?_
        -- R9.24 96 := heap.go:69 indexAddr
        refine HL.v (fun w _ => by exact r_indexS (j := i) ty_sl78 rfl rfl (by omega) (by omega)) rfl rfl rfl ?_
        refine HL.fin hKq2 ?_
        refine TL.at ?_
        -- R9.25 None := heap.go:69 store
        first | refine WL.storeW (vs := [_, _]) st ty_agg67 rfl rfl rfl rfl rfl rfl ?_ | refine WL.storeL (vs := [_, _]) st ty_agg67 rfl rfl rfl rfl (by first | decide | omega) rfl rfl ?_ | refine WL.storeW (vs := [_, _]) st.front1 ty_agg67 rfl rfl rfl rfl rfl rfl ?_ | refine WL.storeL (vs := [_, _]) st.front1 ty_agg67 rfl rfl rfl rfl (by first | decide | omega) rfl rfl ?_ | refine WL.storeW (vs := [_, _]) st.front2 ty_agg67 rfl rfl rfl rfl rfl rfl ?_ | refine WL.storeL (vs := [_, _]) st.front2 ty_agg67 rfl rfl rfl rfl (by first | decide | omega) rfl rfl ?_ | refine WL.storeW (vs := [_, _]) st.front3 ty_agg67 rfl rfl rfl rfl rfl rfl ?_ | refine WL.storeL (vs := [_, _]) st.front3 ty_agg67 rfl rfl rfl rfl (by first | decide | omega) rfl rfl ?_ | refine WL.storeW (vs := [_, _]) st.front4 ty_agg67 rfl rfl rfl rfl rfl rfl ?_ | refine WL.storeL (vs := [_, _]) st.front4 ty_agg67 rfl rfl rfl rfl (by first | decide | omega) rfl rfl ?_ | refine WL.storeW (vs := [_, _]) st.front5 ty_agg67 rfl rfl rfl rfl rfl rfl ?_ | refine WL.storeL (vs := [_, _]) st.front5 ty_agg67 rfl rfl rfl rfl (by first | decide | omega) rfl rfl ?_ | refine WL.storeW (vs := [_, _]) st.front6 ty_agg67 rfl rfl rfl rfl rfl rfl ?_ | refine WL.storeL (vs := [_, _]) st.front6 ty_agg67 rfl rfl rfl rfl (by first | decide | omega) rfl rfl ?_ | refine WL.storeW (vs := [_, _]) st.front7 ty_agg67 rfl rfl rfl rfl rfl rfl ?_ | refine WL.storeL (vs := [_, _]) st.front7 ty_agg67 rfl rfl rfl rfl (by first | decide | omega) rfl rfl ?_ | refine WL.storeW (vs := [_, _]) st.front8 ty_agg67 rfl rfl rfl rfl rfl rfl ?_ | refine WL.storeL (vs := [_, _]) st.front8 ty_agg67 rfl rfl rfl rfl (by first | decide | omega) rfl rfl ?_
        intro w st
        refine TL.nxt' rfl ?_
        refine TL.at ?_
        -- R9.26 97 := heap.go:69 indexAddr
        refine WL.v (by exact r_indexS (j := 2 * i + 1) ty_sl78 rfl rfl (by omega) (by omega)) rfl rfl rfl ?_
        refine TL.nxt' rfl ?_
        refine TL.at ?_
        -- R9.27 None := heap.go:69 store
        first | refine WL.storeW (vs := [_, _]) st ty_agg67 rfl rfl rfl rfl rfl rfl ?_ | refine WL.storeL (vs := [_, _]) st ty_agg67 rfl rfl rfl rfl (by first | decide | omega) rfl rfl ?_ | refine WL.storeW (vs := [_, _]) st.front1 ty_agg67 rfl rfl rfl rfl rfl rfl ?_ | refine WL.storeL (vs := [_, _]) st.front1 ty_agg67 rfl rfl rfl rfl (by first | decide | omega) rfl rfl ?_ | refine WL.storeW (vs := [_, _]) st.front2 ty_agg67 rfl rfl rfl rfl rfl rfl ?_ | refine WL.storeL (vs := [_, _]) st.front2 ty_agg67 rfl rfl rfl rfl (by first | decide | omega) rfl rfl ?_ | refine WL.storeW (vs := [_, _]) st.front3 ty_agg67 rfl rfl rfl rfl rfl rfl ?_ | refine WL.storeL (vs := [_, _]) st.front3 ty_agg67 rfl rfl rfl rfl (by first | decide | omega) rfl rfl ?_ | refine WL.storeW (vs := [_, _]) st.front4 ty_agg67 rfl rfl rfl rfl rfl rfl ?_ | refine WL.storeL (vs := [_, _]) st.front4 ty_agg67 rfl rfl rfl rfl (by first | decide | omega) rfl rfl ?_ | refine WL.storeW (vs := [_, _]) st.front5 ty_agg67 rfl rfl rfl rfl rfl rfl ?_ | refine WL.storeL (vs := [_, _]) st.front5 ty_agg67 rfl rfl rfl rfl (by first | decide | omega) rfl rfl ?_ | refine WL.storeW (vs := [_, _]) st.front6 ty_agg67 rfl rfl rfl rfl rfl rfl ?_ | refine WL.storeL (vs := [_, _]) st.front6 ty_agg67 rfl rfl rfl rfl (by first | decide | omega) rfl rfl ?_ | refine WL.storeW (vs := [_, _]) st.front7 ty_agg67 rfl rfl rfl rfl rfl rfl ?_ | refine WL.storeL (vs := [_, _]) st.front7 ty_agg67 rfl rfl rfl rfl (by first | decide | omega) rfl rfl ?_ | refine WL.storeW (vs := [_, _]) st.front8 ty_agg67 rfl rfl rfl rfl rfl rfl ?_ | refine WL.storeL (vs := [_, _]) st.front8 ty_agg67 rfl rfl rfl rfl (by first | decide | omega) rfl rfl ?_
        intro w st
        refine TL.nxt' rfl ?_
        refine TL.wl ?_
        refine WL.fin hK393 (fun _ _ h => h) ?_
        -- region 10
        refine WC.region ?_
        -- R10.0 98 := heap.go:70 move
        refine WL.v (by first | exact r_move (v := .int _ _) rfl | exact r_move rfl) rfl rfl rfl ?_
        -- R10.1 2 := heap.go:70 assign
        refine WL.v (by first | exact r_assign (v := .int _ _) rfl | exact r_assign rfl) rfl rfl rfl ?_
        refine WL.next hK1 (fun _ _ h => h) (2 * i + 1, _, swp jt i (2 * i + 1)) ⟨st.front1, ((hit.set (jt (2 * i + 1))).set (jt i)).congr (fun k hk => swp_set (by omega) k), hdn.step hl (.inl rfl) hll (fun k h0 hk he => ?_), (swp_perm jt (by omega) hl).trans hperm, by show 2 * i + 1 ≤ n; omega⟩ (by show n - (2 * i + 1) < n - i; omega) (by repeat (first | exact sub_nil _ | refine sub_cons rfl rfl ?_))
        have hk' : k = 2 * i + 1 := by omega
        rcases hk' with rfl
        exact Int.le_refl _
    · skip
      by_cases hr : 2 * i + 2 < n
      · skip
        by_cases hrl : D (jt (2 * i + 2)).1 (jt (2 * i + 2)).2 < D (jt i).1 (jt i).2
        · skip
          refine WC.block ?_
          refine WC.seq fun K394 hK394 => ?_
          -- region 1
          refine WC.region ?_
          -- R1.0 12 := heap.go:59 move
          refine WL.v (by first | exact r_move (v := .int _ _) rfl | exact r_move rfl) rfl rfl rfl ?_
          -- R1.1 4 := heap.go:59 assign
          refine WL.v (by first | exact r_assign (v := .int _ _) rfl | exact r_assign rfl) rfl rfl rfl ?_
          refine WL.fin hK394 (fun _ _ h => h) ?_
          refine WC.seq fun K395 hK395 => ?_
          refine WC.seq fun K396 hK396 => ?_
          -- region 2
          refine WC.region ?_
          -- R2.0 13 := heap.go:60 move
          refine WL.v (by first | exact r_move (v := .int _ _) rfl | exact r_move rfl) rfl rfl rfl ?_
          -- R2.1 14 := heap.go:60 binOp
          refine WL.v (by exact r_mul (r := ((2 * i : Nat) : Int)) rfl rfl (by rw [wi64 (by omega) (by omega)]; omega)) rfl rfl rfl ?_
          -- R2.2 15 := heap.go:60 binOp
          refine WL.v (by exact r_add (r := ((2 * i + 1 : Nat) : Int)) rfl rfl (by rw [wi64 (by omega) (by omega)]; omega)) rfl rfl rfl ?_
          -- R2.3 5 := heap.go:60 assign
          refine WL.v (by first | exact r_assign (v := .int _ _) rfl | exact r_assign rfl) rfl rfl rfl ?_
          refine WL.fin hK396 (fun _ _ h => h) ?_
          refine WC.seq fun K397 hK397 => ?_
          -- region 3 (draws)
          refine WC.quietS st ty_mixed (by kernel_rfl) fun Kq hKq => ?_
          -- R3.0 16 := heap.go:60 move
          refine QL.v (fun w st => by first | exact r_move (v := .int _ _) rfl | exact r_move rfl) rfl rfl rfl ?_
          -- R3.1 17 := heap.go:60 move
          refine QL.v (fun w st => by first | exact r_move (v := .int _ _) rfl | exact r_move rfl) rfl rfl rfl ?_
          -- R3.2 18 := heap.go:60 binOp
          refine QL.v (fun w st => by first | exact r_lss rfl rfl (decide_eq_true (by omega)) | exact r_lss rfl rfl (decide_eq_false (by omega)) | exact r_lss rfl rfl rfl) rfl rfl rfl ?_
          -- R3.3 19 := heap.go:60 move
          refine QL.v (fun w st => by first | exact r_move (v := .bool _) rfl | exact r_move rfl) rfl rfl rfl ?_
          -- R3.4 20 := heap.go:60 move
          refine QL.v (fun w st => by first | exact r_move (v := .pointer _) rfl | exact r_move rfl) rfl rfl rfl ?_
          -- R3.5 21 := heap.go:60 nilCheck
          refine QL.v (fun w st => by exact r_nilCheck rfl) rfl rfl rfl ?_
          -- R3.6 22 := heap.go:60 fieldAddr
          refine QL.v (fun w st => by exact r_field ty_fld80_1 rfl) rfl rfl rfl ?_
          -- R3.7 23 := heap.go:60 load
          refine QL.v (fun w st => by exact r_load1 ty_one71 rfl (by first | assumption | exact st.c0 (by first | decide | omega) | exact st.c1 (by first | decide | omega) | exact st.c2 (by first | decide | omega) | exact st.c3 (by first | decide | omega) | exact st.c4 (by first | decide | omega) | exact st.c5 (by first | decide | omega) | exact st.c6 (by first | decide | omega) | exact st.c7 (by first | decide | omega) | exact st.c8 (by first | decide | omega))) rfl rfl rfl ?_
          -- R3.8 24 := heap.go:60 move
          refine QL.v (fun w st => by first | exact r_move (v := .pointer _) rfl | exact r_move rfl) rfl rfl rfl ?_
          -- R3.9 25 := heap.go:60 nilCheck
          refine QL.v (fun w st => by exact r_nilCheck rfl) rfl rfl rfl ?_
          -- R3.10 26 := heap.go:60 fieldAddr
          refine QL.v (fun w st => by exact r_field ty_fld80_0 rfl) rfl rfl rfl ?_
          -- R3.11 27 := heap.go:60 load
          refine QL.v (fun w st => by exact r_load1 ty_one78 rfl (by first | assumption | exact st.c0 (by first | decide | omega) | exact st.c1 (by first | decide | omega) | exact st.c2 (by first | decide | omega) | exact st.c3 (by first | decide | omega) | exact st.c4 (by first | decide | omega) | exact st.c5 (by first | decide | omega) | exact st.c6 (by first | decide | omega) | exact st.c7 (by first | decide | omega) | exact st.c8 (by first | decide | omega))) rfl rfl rfl ?_
          -- R3.12 28 := heap.go:60 move
          refine QL.v (fun w st => by first | exact r_move (v := .int _ _) rfl | exact r_move rfl) rfl rfl rfl ?_
          -- R3.13 29 := heap.go:60 indexAddr
          refine QL.v (fun w st => by exact r_indexS (j := 2 * i + 1) ty_sl78 rfl rfl (by omega) (by omega)) rfl rfl rfl ?_
          -- R3.14 30 := heap.go:60 load
          refine QL.v (fun w st => by exact r_loadL (vs := [_, _]) ty_agg67 rfl ⟨((st.c1 (by omega)).trans (congrArg some (hit (2 * i + 1) (by omega)).1)), ((st.c1 (by omega)).trans (congrArg some (hit (2 * i + 1) (by omega)).2)), trivial⟩) rfl rfl rfl ?_
          -- R3.15 31 := heap.go:60 move
          refine QL.v (fun w st => by first | exact r_move (v := .pointer _) rfl | exact r_move rfl) rfl rfl rfl ?_
          -- R3.16 32 := heap.go:60 nilCheck
          refine QL.v (fun w st => by exact r_nilCheck rfl) rfl rfl rfl ?_
          -- R3.17 33 := heap.go:60 fieldAddr
          refine QL.v (fun w st => by exact r_field ty_fld80_0 rfl) rfl rfl rfl ?_
          -- R3.18 34 := heap.go:60 load
          refine QL.v (fun w st => by exact r_load1 ty_one78 rfl (by first | assumption | exact st.c0 (by first | decide | omega) | exact st.c1 (by first | decide | omega) | exact st.c2 (by first | decide | omega) | exact st.c3 (by first | decide | omega) | exact st.c4 (by first | decide | omega) | exact st.c5 (by first | decide | omega) | exact st.c6 (by first | decide | omega) | exact st.c7 (by first | decide | omega) | exact st.c8 (by first | decide | omega))) rfl rfl rfl ?_
          -- R3.19 35 := heap.go:60 move
          refine QL.v (fun w st => by first | exact r_move (v := .int _ _) rfl | exact r_move rfl) rfl rfl rfl ?_
          -- R3.20 36 := heap.go:60 indexAddr
          refine QL.v (fun w st => by exact r_indexS (j := i) ty_sl78 rfl rfl (by omega) (by omega)) rfl rfl rfl ?_
          -- R3.21 37 := heap.go:60 load
          refine QL.v (fun w st => by exact r_loadL (vs := [_, _]) ty_agg67 rfl ⟨((st.c1 (by omega)).trans (congrArg some (hit i (by omega)).1)), ((st.c1 (by omega)).trans (congrArg some (hit i (by omega)).2)), trivial⟩) rfl rfl rfl ?_
          -- R3.22 38 := heap.go:60 call
          refine QL.call (val := .bool false) (fun w st => r_callv ty_call13 rfl rfl) rfl rfl rfl (fun w st => less_true (hG.more [_, _]) (hokj _ (by omega)) (hokj _ (by omega)) false (decide_eq_false hll) st) ?_
          -- R3.23 39 := heap.go:60 pick
          refine QL.v (fun w st => by first | exact r_pickT (v := .bool _) rfl rfl | exact r_pickF (v := .bool _) rfl rfl) rfl rfl rfl ?_
          refine QL.wl hKq fun w st => ?_
          refine WL.fin hK397 (fun _ _ h => h) ?_
          refine WC.condF rfl rfl ?_
          refine WC.skipF hK395 (fun _ _ h => h) ?_
          refine WC.seq fun K398 hK398 => ?_
          refine WC.seq fun K399 hK399 => ?_
          -- region 5
          refine WC.region ?_
          -- R5.0 41 := heap.go:63 move
          refine WL.v (by first | exact r_move (v := .int _ _) rfl | exact r_move rfl) rfl rfl rfl ?_
          -- R5.1 42 := heap.go:63 binOp
          refine WL.v (by exact r_mul (r := ((2 * i : Nat) : Int)) rfl rfl (by rw [wi64 (by omega) (by omega)]; omega)) rfl rfl rfl ?_
          -- R5.2 43 := heap.go:63 binOp
          refine WL.v (by exact r_add (r := ((2 * i + 2 : Nat) : Int)) rfl rfl (by rw [wi64 (by omega) (by omega)]; omega)) rfl rfl rfl ?_
          -- R5.3 6 := heap.go:63 assign
          refine WL.v (by first | exact r_assign (v := .int _ _) rfl | exact r_assign rfl) rfl rfl rfl ?_
          refine WL.fin hK399 (fun _ _ h => h) ?_
          refine WC.seq fun K400 hK400 => ?_
          -- region 6 (draws)
          refine WC.quietS st ty_mixed (by kernel_rfl) fun Kq hKq => ?_
          -- R6.0 44 := heap.go:63 move
          refine QL.v (fun w st => by first | exact r_move (v := .int _ _) rfl | exact r_move rfl) rfl rfl rfl ?_
          -- R6.1 45 := heap.go:63 move
          refine QL.v (fun w st => by first | exact r_move (v := .int _ _) rfl | exact r_move rfl) rfl rfl rfl ?_
          -- R6.2 46 := heap.go:63 binOp
          refine QL.v (fun w st => by first | exact r_lss rfl rfl (decide_eq_true (by omega)) | exact r_lss rfl rfl (decide_eq_false (by omega)) | exact r_lss rfl rfl rfl) rfl rfl rfl ?_
          -- R6.3 47 := heap.go:63 move
          refine QL.v (fun w st => by first | exact r_move (v := .bool _) rfl | exact r_move rfl) rfl rfl rfl ?_
          -- R6.4 48 := heap.go:63 move
          refine QL.v (fun w st => by first | exact r_move (v := .pointer _) rfl | exact r_move rfl) rfl rfl rfl ?_
          -- R6.5 49 := heap.go:63 nilCheck
          refine QL.v (fun w st => by exact r_nilCheck rfl) rfl rfl rfl ?_
          -- R6.6 50 := heap.go:63 fieldAddr
          refine QL.v (fun w st => by exact r_field ty_fld80_1 rfl) rfl rfl rfl ?_
          -- R6.7 51 := heap.go:63 load
          refine QL.v (fun w st => by exact r_load1 ty_one71 rfl (by first | assumption | exact st.c0 (by first | decide | omega) | exact st.c1 (by first | decide | omega) | exact st.c2 (by first | decide | omega) | exact st.c3 (by first | decide | omega) | exact st.c4 (by first | decide | omega) | exact st.c5 (by first | decide | omega) | exact st.c6 (by first | decide | omega) | exact st.c7 (by first | decide | omega) | exact st.c8 (by first | decide | omega))) rfl rfl rfl ?_
          -- R6.8 52 := heap.go:63 move
          refine QL.v (fun w st => by first | exact r_move (v := .pointer _) rfl | exact r_move rfl) rfl rfl rfl ?_
          -- R6.9 53 := heap.go:63 nilCheck
          refine QL.v (fun w st => by exact r_nilCheck rfl) rfl rfl rfl ?_
          -- R6.10 54 := heap.go:63 fieldAddr
          refine QL.v (fun w st => by exact r_field ty_fld80_0 rfl) rfl rfl rfl ?_
          -- R6.11 55 := heap.go:63 load
          refine QL.v (fun w st => by exact r_load1 ty_one78 rfl (by first | assumption | exact st.c0 (by first | decide | omega) | exact st.c1 (by first | decide | omega) | exact st.c2 (by first | decide | omega) | exact st.c3 (by first | decide | omega) | exact st.c4 (by first | decide | omega) | exact st.c5 (by first | decide | omega) | exact st.c6 (by first | decide | omega) | exact st.c7 (by first | decide | omega) | exact st.c8 (by first | decide | omega))) rfl rfl rfl ?_
          -- R6.12 56 := heap.go:63 move
          refine QL.v (fun w st => by first | exact r_move (v := .int _ _) rfl | exact r_move rfl) rfl rfl rfl ?_
          -- R6.13 57 := heap.go:63 indexAddr
          refine QL.v (fun w st => by exact r_indexS (j := 2 * i + 2) ty_sl78 rfl rfl (by omega) (by omega)) rfl rfl rfl ?_
          -- R6.14 58 := heap.go:63 load
          refine QL.v (fun w st => by exact r_loadL (vs := [_, _]) ty_agg67 rfl ⟨((st.c1 (by omega)).trans (congrArg some (hit (2 * i + 2) (by omega)).1)), ((st.c1 (by omega)).trans (congrArg some (hit (2 * i + 2) (by omega)).2)), trivial⟩) rfl rfl rfl ?_
          -- R6.15 59 := heap.go:63 move
          refine QL.v (fun w st => by first | exact r_move (v := .pointer _) rfl | exact r_move rfl) rfl rfl rfl ?_
          -- R6.16 60 := heap.go:63 nilCheck
          refine QL.v (fun w st => by exact r_nilCheck rfl) rfl rfl rfl ?_
          -- R6.17 61 := heap.go:63 fieldAddr
          refine QL.v (fun w st => by exact r_field ty_fld80_0 rfl) rfl rfl rfl ?_
          -- R6.18 62 := heap.go:63 load
          refine QL.v (fun w st => by exact r_load1 ty_one78 rfl (by first | assumption | exact st.c0 (by first | decide | omega) | exact st.c1 (by first | decide | omega) | exact st.c2 (by first | decide | omega) | exact st.c3 (by first | decide | omega) | exact st.c4 (by first | decide | omega) | exact st.c5 (by first | decide | omega) | exact st.c6 (by first | decide | omega) | exact st.c7 (by first | decide | omega) | exact st.c8 (by first | decide | omega))) rfl rfl rfl ?_
          -- R6.19 63 := heap.go:63 move
          refine QL.v (fun w st => by first | exact r_move (v := .int _ _) rfl | exact r_move rfl) rfl rfl rfl ?_
          -- R6.20 64 := heap.go:63 indexAddr
          refine QL.v (fun w st => by exact r_indexS (j := i) ty_sl78 rfl rfl (by omega) (by omega)) rfl rfl rfl ?_
          -- R6.21 65 := heap.go:63 load
          refine QL.v (fun w st => by exact r_loadL (vs := [_, _]) ty_agg67 rfl ⟨((st.c1 (by omega)).trans (congrArg some (hit i (by omega)).1)), ((st.c1 (by omega)).trans (congrArg some (hit i (by omega)).2)), trivial⟩) rfl rfl rfl ?_
          -- R6.22 66 := heap.go:63 call
          refine QL.call (val := .bool true) (fun w st => r_callv ty_call13 rfl rfl) rfl rfl rfl (fun w st => less_true (hG.more [_, _]) (hokj _ (by omega)) (hokj _ (by omega)) true (decide_eq_true hrl) st) ?_
          -- R6.23 67 := heap.go:63 pick
          refine QL.v (fun w st => by first | exact r_pickT (v := .bool _) rfl rfl | exact r_pickF (v := .bool _) rfl rfl) rfl rfl rfl ?_
          refine QL.wl hKq fun w st => ?_
          refine WL.fin hK400 (fun _ _ h => h) ?_
          refine WC.condT rfl rfl ?_
          -- region 7
          refine WC.region ?_
          -- R7.0 68 := heap.go:64 move
          refine WL.v (by first | exact r_move (v := .int _ _) rfl | exact r_move rfl) rfl rfl rfl ?_
          -- R7.1 4 := heap.go:64 assign
          refine WL.v (by first | exact r_assign (v := .int _ _) rfl | exact r_assign rfl) rfl rfl rfl ?_
          refine WL.fin hK398 (fun _ _ h => h) ?_
          refine WC.seq fun K401 hK401 => ?_
          refine WC.seq fun K402 hK402 => ?_
          -- region 8
          refine WC.region ?_
          -- R8.0 69 := heap.go:66 move
          refine WL.v (by first | exact r_move (v := .int _ _) rfl | exact r_move rfl) rfl rfl rfl ?_
          -- R8.1 70 := heap.go:66 move
          refine WL.v (by first | exact r_move (v := .int _ _) rfl | exact r_move rfl) rfl rfl rfl ?_
          -- R8.2 71 := heap.go:66 binOp
          refine WL.v (by first | exact r_eql rfl rfl (decide_eq_true (by omega)) | exact r_eql rfl rfl (decide_eq_false (by omega)) | exact r_eql rfl rfl rfl) rfl rfl rfl ?_
          refine WL.fin hK402 (fun _ _ h => h) ?_
          refine WC.condF rfl rfl ?_
          refine WC.skipF hK401 (fun _ _ h => h) ?_
          refine WC.seq fun K403 hK403 => ?_
          -- region 9 (draws)
          refine WC.heldS2 [25, 26, 27] [0, 1, 2, 3, 5, 6, 7, 8, 10, 11, 12, 13, 14, 15, 16, 17, 18, 19, 20, 21, 22, 23] [4, 9, 24] [25, 26, 27] st (st) ty_mixed (by kernel_rfl) fun w st Kq Kq2 hKq hKq2 => ?_
          -- R9.0 72 := heap.go:69 move
          refine HL.v (fun w st => by first | exact r_move (v := .pointer _) rfl | exact r_move rfl) rfl rfl rfl ?_
          -- R9.1 73 := heap.go:69 nilCheck
          refine HL.v (fun w st => by exact r_nilCheck rfl) rfl rfl rfl ?_
          -- R9.2 74 := heap.go:69 fieldAddr
          refine HL.v (fun w st => by exact r_field ty_fld80_0 rfl) rfl rfl rfl ?_
          -- R9.3 75 := heap.go:69 load
          refine HL.v (fun w st => by exact r_load1 ty_one78 rfl (by first | assumption | exact st.c0 (by first | decide | omega) | exact st.c1 (by first | decide | omega) | exact st.c2 (by first | decide | omega) | exact st.c3 (by first | decide | omega) | exact st.c4 (by first | decide | omega) | exact st.c5 (by first | decide | omega) | exact st.c6 (by first | decide | omega) | exact st.c7 (by first | decide | omega) | exact st.c8 (by first | decide | omega))) rfl rfl rfl ?_
          -- R9.5 77 := heap.go:69 move
          refine HL.v (fun w st => by first | exact r_move (v := .pointer _) rfl | exact r_move rfl) rfl rfl rfl ?_
          -- R9.6 78 := heap.go:69 nilCheck
          refine HL.v (fun w st => by exact r_nilCheck rfl) rfl rfl rfl ?_
          -- R9.7 79 := heap.go:69 fieldAddr
          refine HL.v (fun w st => by exact r_field ty_fld80_0 rfl) rfl rfl rfl ?_
          -- R9.8 80 := heap.go:69 load
          refine HL.v (fun w st => by exact r_load1 ty_one78 rfl (by first | assumption | exact st.c0 (by first | decide | omega) | exact st.c1 (by first | decide | omega) | exact st.c2 (by first | decide | omega) | exact st.c3 (by first | decide | omega) | exact st.c4 (by first | decide | omega) | exact st.c5 (by first | decide | omega) | exact st.c6 (by first | decide | omega) | exact st.c7 (by first | decide | omega) | exact st.c8 (by first | decide | omega))) rfl rfl rfl ?_
          -- R9.10 82 := heap.go:69 move
          refine HL.v (fun w st => by first | exact r_move (v := .pointer _) rfl | exact r_move rfl) rfl rfl rfl ?_
          -- R9.11 83 := heap.go:69 nilCheck
          refine HL.v (fun w st => by exact r_nilCheck rfl) rfl rfl rfl ?_
          -- R9.12 84 := heap.go:69 fieldAddr
          refine HL.v (fun w st => by exact r_field ty_fld80_0 rfl) rfl rfl rfl ?_
          -- R9.13 85 := heap.go:69 load
          refine HL.v (fun w st => by exact r_load1 ty_one78 rfl (by first | assumption | exact st.c0 (by first | decide | omega) | exact st.c1 (by first | decide | omega) | exact st.c2 (by first | decide | omega) | exact st.c3 (by first | decide | omega) | exact st.c4 (by first | decide | omega) | exact st.c5 (by first | decide | omega) | exact st.c6 (by first | decide | omega) | exact st.c7 (by first | decide | omega) | exact st.c8 (by first | decide | omega))) rfl rfl rfl ?_
          -- R9.14 86 := heap.go:69 move
          refine HL.v (fun w st => by first | exact r_move (v := .int _ _) rfl | exact r_move rfl) rfl rfl rfl ?_
          -- R9.15 87 := heap.go:69 indexAddr
          refine HL.v (fun w st => by exact r_indexS (j := 2 * i + 2) ty_sl78 rfl rfl (by omega) (by omega)) rfl rfl rfl ?_
          -- R9.16 88 := heap.go:69 load
          refine HL.v (fun w st => by exact r_loadL (vs := [_, _]) ty_agg67 rfl ⟨((st.c1 (by omega)).trans (congrArg some (hit (2 * i + 2) (by omega)).1)), ((st.c1 (by omega)).trans (congrArg some (hit (2 * i + 2) (by omega)).2)), trivial⟩) rfl rfl rfl ?_
          -- R9.17 89 := heap.go:69 move
          refine HL.v (fun w st => by first | exact r_move (v := .pointer _) rfl | exact r_move rfl) rfl rfl rfl ?_
          -- R9.18 90 := heap.go:69 nilCheck
          refine HL.v (fun w st => by exact r_nilCheck rfl) rfl rfl rfl ?_
          -- R9.19 91 := heap.go:69 fieldAddr
          refine HL.v (fun w st => by exact r_field ty_fld80_0 rfl) rfl rfl rfl ?_
          -- R9.20 92 := heap.go:69 load
          refine HL.v (fun w st => by exact r_load1 ty_one78 rfl (by first | assumption | exact st.c0 (by first | decide | omega) | exact st.c1 (by first | decide | omega) | exact st.c2 (by first | decide | omega) | exact st.c3 (by first | decide | omega) | exact st.c4 (by first | decide | omega) | exact st.c5 (by first | decide | omega) | exact st.c6 (by first | decide | omega) | exact st.c7 (by first | decide | omega) | exact st.c8 (by first | decide | omega))) rfl rfl rfl ?_
          -- R9.21 93 := heap.go:69 move
          refine HL.v (fun w st => by first | exact r_move (v := .int _ _) rfl | exact r_move rfl) rfl rfl rfl ?_
          -- R9.22 94 := heap.go:69 indexAddr
          refine HL.v (fun w st => by exact r_indexS (j := i) ty_sl78 rfl rfl (by omega) (by omega)) rfl rfl rfl ?_
          -- R9.23 95 := heap.go:69 load
          refine HL.v (fun w st => by exact r_loadL (vs := [_, _]) ty_agg67 rfl ⟨((st.c1 (by omega)).trans (congrArg some (hit i (by omega)).1)), ((st.c1 (by omega)).trans (congrArg some (hit i (by omega)).2)), trivial⟩) rfl rfl rfl ?_
          refine HL.pure hKq ?_
          -- R9.4 76 := heap.go:69 move
          refine HL.v (fun w _ => by first | exact r_move (v := .int _ _) rfl | exact r_move rfl) rfl rfl rfl ?_
          -- R9.9 81 := heap.go:69 move
          refine HL.v (fun w _ => by first | exact r_move (v := .int _ _) rfl | exact r_move rfl) rfl rfl rfl ?_
          -- R9.24 96 := heap.go:69 indexAddr
          refine HL.v (fun w _ => by exact r_indexS (j := i) ty_sl78 rfl rfl (by omega) (by omega)) rfl rfl rfl ?_
          refine HL.fin hKq2 ?_
          refine TL.at ?_
          -- R9.25 None := heap.go:69 store
          first | refine WL.storeW (vs := [_, _]) st ty_agg67 rfl rfl rfl rfl rfl rfl ?_ | refine WL.storeL (vs := [_, _]) st ty_agg67 rfl rfl rfl rfl (by first | decide | omega) rfl rfl ?_ | refine WL.storeW (vs := [_, _]) st.front1 ty_agg67 rfl rfl rfl rfl rfl rfl ?_ | refine WL.storeL (vs := [_, _]) st.front1 ty_agg67 rfl rfl rfl rfl (by first | decide | omega) rfl rfl ?_ | refine WL.storeW (vs := [_, _]) st.front2 ty_agg67 rfl rfl rfl rfl rfl rfl ?_ | refine WL.storeL (vs := [_, _]) st.front2 ty_agg67 rfl rfl rfl rfl (by first | decide | omega) rfl rfl ?_ | refine WL.storeW (vs := [_, _]) st.front3 ty_agg67 rfl rfl rfl rfl rfl rfl ?_ | refine WL.storeL (vs := [_, _]) st.front3 ty_agg67 rfl rfl rfl rfl (by first | decide | omega) rfl rfl ?_ | refine WL.storeW (vs := [_, _]) st.front4 ty_agg67 rfl rfl rfl rfl rfl rfl ?_ | refine WL.storeL (vs := [_, _]) st.front4 ty_agg67 rfl rfl rfl rfl (by first | decide | omega) rfl rfl ?_ | refine WL.storeW (vs := [_, _]) st.front5 ty_agg67 rfl rfl rfl rfl rfl rfl ?_ | refine WL.storeL (vs := [_, _]) st.front5 ty_agg67 rfl rfl rfl rfl (by first | decide | omega) rfl rfl ?_ | refine WL.storeW (vs := [_, _]) st.front6 ty_agg67 rfl rfl rfl rfl rfl rfl ?_ | refine WL.storeL (vs := [_, _]) st.front6 ty_agg67 rfl rfl rfl rfl (by first | decide | omega) rfl rfl ?_ | refine WL.storeW (vs := [_, _]) st.front7 ty_agg67 rfl rfl rfl rfl rfl rfl ?_ | refine WL.storeL (vs := [_, _]) st.front7 ty_agg67 rfl rfl rfl rfl (by first | decide | omega) rfl rfl ?_ | refine WL.storeW (vs := [_, _]) st.front8 ty_agg67 rfl rfl rfl rfl rfl rfl ?_ | refine WL.storeL (vs := [_, _]) st.front8 ty_agg67 rfl rfl rfl rfl (by first | decide | omega) rfl rfl ?_
          intro w st
          refine TL.nxt' rfl ?_
          refine TL.at ?_
          -- R9.26 97 := heap.go:69 indexAddr
          refine WL.v (by exact r_indexS (j := 2 * i + 2) ty_sl78 rfl rfl (by omega) (by omega)) rfl rfl rfl ?_
          refine TL.nxt' rfl ?_
          refine TL.at ?_
          -- R9.27 None := heap.go:69 store
          first | refine WL.storeW (vs := [_, _]) st ty_agg67 rfl rfl rfl rfl rfl rfl ?_ | refine WL.storeL (vs := [_, _]) st ty_agg67 rfl rfl rfl rfl (by first | decide | omega) rfl rfl ?_ | refine WL.storeW (vs := [_, _]) st.front1 ty_agg67 rfl rfl rfl rfl rfl rfl ?_ | refine WL.storeL (vs := [_, _]) st.front1 ty_agg67 rfl rfl rfl rfl (by first | decide | omega) rfl rfl ?_ | refine WL.storeW (vs := [_, _]) st.front2 ty_agg67 rfl rfl rfl rfl rfl rfl ?_ | refine WL.storeL (vs := [_, _]) st.front2 ty_agg67 rfl rfl rfl rfl (by first | decide | omega) rfl rfl ?_ | refine WL.storeW (vs := [_, _]) st.front3 ty_agg67 rfl rfl rfl rfl rfl rfl ?_ | refine WL.storeL (vs := [_, _]) st.front3 ty_agg67 rfl rfl rfl rfl (by first | decide | omega) rfl rfl ?_ | refine WL.storeW (vs := [_, _]) st.front4 ty_agg67 rfl rfl rfl rfl rfl rfl ?_ | refine WL.storeL (vs := [_, _]) st.front4 ty_agg67 rfl rfl rfl rfl (by first | decide | omega) rfl rfl ?_ | refine WL.storeW (vs := [_, _]) st.front5 ty_agg67 rfl rfl rfl rfl rfl rfl ?_ | refine WL.storeL (vs := [_, _]) st.front5 ty_agg67 rfl rfl rfl rfl (by first | decide | omega) rfl rfl ?_ | refine WL.storeW (vs := [_, _]) st.front6 ty_agg67 rfl rfl rfl rfl rfl rfl ?_ | refine WL.storeL (vs := [_, _]) st.front6 ty_agg67 rfl rfl rfl rfl (by first | decide | omega) rfl rfl ?_ | refine WL.storeW (vs := [_, _]) st.front7 ty_agg67 rfl rfl rfl rfl rfl rfl ?_ | refine WL.storeL (vs := [_, _]) st.front7 ty_agg67 rfl rfl rfl rfl (by first | decide | omega) rfl rfl ?_ | refine WL.storeW (vs := [_, _]) st.front8 ty_agg67 rfl rfl rfl rfl rfl rfl ?_ | refine WL.storeL (vs := [_, _]) st.front8 ty_agg67 rfl rfl rfl rfl (by first | decide | omega) rfl rfl ?_
          intro w st
          refine TL.nxt' rfl ?_
          refine TL.wl ?_
          refine WL.fin hK403 (fun _ _ h => h) ?_
          -- region 10
          refine WC.region ?_
          -- R10.0 98 := heap.go:70 move
          refine WL.v (by first | exact r_move (v := .int _ _) rfl | exact r_move rfl) rfl rfl rfl ?_
          -- R10.1 2 := heap.go:70 assign
          refine WL.v (by first | exact r_assign (v := .int _ _) rfl | exact r_assign rfl) rfl rfl rfl ?_
          refine WL.next hK1 (fun _ _ h => h) (2 * i + 2, _, swp jt i (2 * i + 2)) ⟨st.front1, ((hit.set (jt (2 * i + 2))).set (jt i)).congr (fun k hk => swp_set (by omega) k), hdn.step hr (.inr rfl) hrl (fun k h0 hk he => ?_), (swp_perm jt (by omega) hr).trans hperm, by show 2 * i + 2 ≤ n; omega⟩ (by show n - (2 * i + 2) < n - i; omega) (by repeat (first | exact sub_nil _ | refine sub_cons rfl rfl ?_))
          have hk' : k = 2 * i + 1 ∨ k = 2 * i + 2 := by omega
          rcases hk' with rfl | rfl
          · exact Int.le_of_lt (Int.lt_of_lt_of_le hrl (Int.not_lt.1 hll))
          · exact Int.le_refl _
        · skip
          refine WC.block ?_
          refine WC.seq fun K404 hK404 => ?_
          -- region 1
          refine WC.region ?_
          -- R1.0 12 := heap.go:59 move
          refine WL.v (by first | exact r_move (v := .int _ _) rfl | exact r_move rfl) rfl rfl rfl ?_
          -- R1.1 4 := heap.go:59 assign
          refine WL.v (by first | exact r_assign (v := .int _ _) rfl | exact r_assign rfl) rfl rfl rfl ?_
          refine WL.fin hK404 (fun _ _ h => h) ?_
          refine WC.seq fun K405 hK405 => ?_
          refine WC.seq fun K406 hK406 => ?_
          -- region 2
          refine WC.region ?_
          -- R2.0 13 := heap.go:60 move
          refine WL.v (by first | exact r_move (v := .int _ _) rfl | exact r_move rfl) rfl rfl rfl ?_
          -- R2.1 14 := heap.go:60 binOp
          refine WL.v (by exact r_mul (r := ((2 * i : Nat) : Int)) rfl rfl (by rw [wi64 (by omega) (by omega)]; omega)) rfl rfl rfl ?_
          -- R2.2 15 := heap.go:60 binOp
          refine WL.v (by exact r_add (r := ((2 * i + 1 : Nat) : Int)) rfl rfl (by rw [wi64 (by omega) (by omega)]; omega)) rfl rfl rfl ?_
          -- R2.3 5 := heap.go:60 assign
          refine WL.v (by first | exact r_assign (v := .int _ _) rfl | exact r_assign rfl) rfl rfl rfl ?_
          refine WL.fin hK406 (fun _ _ h => h) ?_
          refine WC.seq fun K407 hK407 => ?_
          -- region 3 (draws)
          refine WC.quietS st ty_mixed (by kernel_rfl) fun Kq hKq => ?_
          -- R3.0 16 := heap.go:60 move
          refine QL.v (fun w st => by first | exact r_move (v := .int _ _) rfl | exact r_move rfl) rfl rfl rfl ?_
          -- R3.1 17 := heap.go:60 move
          refine QL.v (fun w st => by first | exact r_move (v := .int _ _) rfl | exact r_move rfl) rfl rfl rfl ?_
          -- R3.2 18 := heap.go:60 binOp
          refine QL.v (fun w st => by first | exact r_lss rfl rfl (decide_eq_true (by omega)) | exact r_lss rfl rfl (decide_eq_false (by omega)) | exact r_lss rfl rfl rfl) rfl rfl rfl ?_
          -- R3.3 19 := heap.go:60 move
          refine QL.v (fun w st => by first | exact r_move (v := .bool _) rfl | exact r_move rfl) rfl rfl rfl ?_
          -- R3.4 20 := heap.go:60 move
          refine QL.v (fun w st => by first | exact r_move (v := .pointer _) rfl | exact r_move rfl) rfl rfl rfl ?_
          -- R3.5 21 := heap.go:60 nilCheck
          refine QL.v (fun w st => by exact r_nilCheck rfl) rfl rfl rfl ?_
          -- R3.6 22 := heap.go:60 fieldAddr
          refine QL.v (fun w st => by exact r_field ty_fld80_1 rfl) rfl rfl rfl ?_
          -- R3.7 23 := heap.go:60 load
          refine QL.v (fun w st => by exact r_load1 ty_one71 rfl (by first | assumption | exact st.c0 (by first | decide | omega) | exact st.c1 (by first | decide | omega) | exact st.c2 (by first | decide | omega) | exact st.c3 (by first | decide | omega) | exact st.c4 (by first | decide | omega) | exact st.c5 (by first | decide | omega) | exact st.c6 (by first | decide | omega) | exact st.c7 (by first | decide | omega) | exact st.c8 (by first | decide | omega))) rfl rfl rfl ?_
          -- R3.8 24 := heap.go:60 move
          refine QL.v (fun w st => by first | exact r_move (v := .pointer _) rfl | exact r_move rfl) rfl rfl rfl ?_
          -- R3.9 25 := heap.go:60 nilCheck
          refine QL.v (fun w st => by exact r_nilCheck rfl) rfl rfl rfl ?_
          -- R3.10 26 := heap.go:60 fieldAddr
          refine QL.v (fun w st => by exact r_field ty_fld80_0 rfl) rfl rfl rfl ?_
          -- R3.11 27 := heap.go:60 load
          refine QL.v (fun w st => by exact r_load1 ty_one78 rfl (by first | assumption | exact st.c0 (by first | decide | omega) | exact st.c1 (by first | decide | omega) | exact st.c2 (by first | decide | omega) | exact st.c3 (by first | decide | omega) | exact st.c4 (by first | decide | omega) | exact st.c5 (by first | decide | omega) | exact st.c6 (by first | decide | omega) | exact st.c7 (by first | decide | omega) | exact st.c8 (by first | decide | omega))) rfl rfl rfl ?_
          -- R3.12 28 := heap.go:60 move
          refine QL.v (fun w st => by first | exact r_move (v := .int _ _) rfl | exact r_move rfl) rfl rfl rfl ?_
          -- R3.13 29 := heap.go:60 indexAddr
          refine QL.v (fun w st => by exact r_indexS (j := 2 * i + 1) ty_sl78 rfl rfl (by omega) (by omega)) rfl rfl rfl ?_
          -- R3.14 30 := heap.go:60 load
          refine QL.v (fun w st => by exact r_loadL (vs := [_, _]) ty_agg67 rfl ⟨((st.c1 (by omega)).trans (congrArg some (hit (2 * i + 1) (by omega)).1)), ((st.c1 (by omega)).trans (congrArg some (hit (2 * i + 1) (by omega)).2)), trivial⟩) rfl rfl rfl ?_
          -- R3.15 31 := heap.go:60 move
          refine QL.v (fun w st => by first | exact r_move (v := .pointer _) rfl | exact r_move rfl) rfl rfl rfl ?_
          -- R3.16 32 := heap.go:60 nilCheck
          refine QL.v (fun w st => by exact r_nilCheck rfl) rfl rfl rfl ?_
          -- R3.17 33 := heap.go:60 fieldAddr
          refine QL.v (fun w st => by exact r_field ty_fld80_0 rfl) rfl rfl rfl ?_
          -- R3.18 34 := heap.go:60 load
          refine QL.v (fun w st => by exact r_load1 ty_one78 rfl (by first | assumption | exact st.c0 (by first | decide | omega) | exact st.c1 (by first | decide | omega) | exact st.c2 (by first | decide | omega) | exact st.c3 (by first | decide | omega) | exact st.c4 (by first | decide | omega) | exact st.c5 (by first | decide | omega) | exact st.c6 (by first | decide | omega) | exact st.c7 (by first | decide | omega) | exact st.c8 (by first | decide | omega))) rfl rfl rfl ?_
          -- R3.19 35 := heap.go:60 move
          refine QL.v (fun w st => by first | exact r_move (v := .int _ _) rfl | exact r_move rfl) rfl rfl rfl ?_
          -- R3.20 36 := heap.go:60 indexAddr
          refine QL.v (fun w st => by exact r_indexS (j := i) ty_sl78 rfl rfl (by omega) (by omega)) rfl rfl rfl ?_
          -- R3.21 37 := heap.go:60 load
          refine QL.v (fun w st => by exact r_loadL (vs := [_, _]) ty_agg67 rfl ⟨((st.c1 (by omega)).trans (congrArg some (hit i (by omega)).1)), ((st.c1 (by omega)).trans (congrArg some (hit i (by omega)).2)), trivial⟩) rfl rfl rfl ?_
          -- R3.22 38 := heap.go:60 call
          refine QL.call (val := .bool false) (fun w st => r_callv ty_call13 rfl rfl) rfl rfl rfl (fun w st => less_true (hG.more [_, _]) (hokj _ (by omega)) (hokj _ (by omega)) false (decide_eq_false hll) st) ?_
          -- R3.23 39 := heap.go:60 pick
          refine QL.v (fun w st => by first | exact r_pickT (v := .bool _) rfl rfl | exact r_pickF (v := .bool _) rfl rfl) rfl rfl rfl ?_
          refine QL.wl hKq fun w st => ?_
          refine WL.fin hK407 (fun _ _ h => h) ?_
          refine WC.condF rfl rfl ?_
          refine WC.skipF hK405 (fun _ _ h => h) ?_
          refine WC.seq fun K408 hK408 => ?_
          refine WC.seq fun K409 hK409 => ?_
          -- region 5
          refine WC.region ?_
          -- R5.0 41 := heap.go:63 move
          refine WL.v (by first | exact r_move (v := .int _ _) rfl | exact r_move rfl) rfl rfl rfl ?_
          -- R5.1 42 := heap.go:63 binOp
          refine WL.v (by exact r_mul (r := ((2 * i : Nat) : Int)) rfl rfl (by rw [wi64 (by omega) (by omega)]; omega)) rfl rfl rfl ?_
          -- R5.2 43 := heap.go:63 binOp
          refine WL.v (by exact r_add (r := ((2 * i + 2 : Nat) : Int)) rfl rfl (by rw [wi64 (by omega) (by omega)]; omega)) rfl rfl rfl ?_
          -- R5.3 6 := heap.go:63 assign
          refine WL.v (by first | exact r_assign (v := .int _ _) rfl | exact r_assign rfl) rfl rfl rfl ?_
          refine WL.fin hK409 (fun _ _ h => h) ?_
          refine WC.seq fun K410 hK410 => ?_
          -- region 6 (draws)
          refine WC.quietS st ty_mixed (by kernel_rfl) fun Kq hKq => ?_
          -- R6.0 44 := heap.go:63 move
          refine QL.v (fun w st => by first | exact r_move (v := .int _ _) rfl | exact r_move rfl) rfl rfl rfl ?_
          -- R6.1 45 := heap.go:63 move
          refine QL.v (fun w st => by first | exact r_move (v := .int _ _) rfl | exact r_move rfl) rfl rfl rfl ?_
          -- R6.2 46 := heap.go:63 binOp
          refine QL.v (fun w st => by first | exact r_lss rfl rfl (decide_eq_true (by omega)) | exact r_lss rfl rfl (decide_eq_false (by omega)) | exact r_lss rfl rfl rfl) rfl rfl rfl ?_
          -- R6.3 47 := heap.go:63 move
          refine QL.v (fun w st => by first | exact r_move (v := .bool _) rfl | exact r_move rfl) rfl rfl rfl ?_
          -- R6.4 48 := heap.go:63 move
          refine QL.v (fun w st => by first | exact r_move (v := .pointer _) rfl | exact r_move rfl) rfl rfl rfl ?_
          -- R6.5 49 := heap.go:63 nilCheck
          refine QL.v (fun w st => by exact r_nilCheck rfl) rfl rfl rfl ?_
          -- R6.6 50 := heap.go:63 fieldAddr
          refine QL.v (fun w st => by exact r_field ty_fld80_1 rfl) rfl rfl rfl ?_
          -- R6.7 51 := heap.go:63 load
          refine QL.v (fun w st => by exact r_load1 ty_one71 rfl (by first | assumption | exact st.c0 (by first | decide | omega) | exact st.c1 (by first | decide | omega) | exact st.c2 (by first | decide | omega) | exact st.c3 (by first | decide | omega) | exact st.c4 (by first | decide | omega) | exact st.c5 (by first | decide | omega) | exact st.c6 (by first | decide | omega) | exact st.c7 (by first | decide | omega) | exact st.c8 (by first | decide | omega))) rfl rfl rfl ?_
          -- R6.8 52 := heap.go:63 move
          refine QL.v (fun w st => by first | exact r_move (v := .pointer _) rfl | exact r_move rfl) rfl rfl rfl ?_
          -- R6.9 53 := heap.go:63 nilCheck
          refine QL.v (fun w st => by exact r_nilCheck rfl) rfl rfl rfl ?_
          -- R6.10 54 := heap.go:63 fieldAddr
          refine QL.v (fun w st => by exact r_field ty_fld80_0 rfl) rfl rfl rfl ?_
          -- R6.11 55 := heap.go:63 load
          refine QL.v (fun w st => by exact r_load1 ty_one78 rfl (by first | assumption | exact st.c0 (by first | decide | omega) | exact st.c1 (by first | decide | omega) | exact st.c2 (by first | decide | omega) | exact st.c3 (by first | decide | omega) | exact st.c4 (by first | decide | omega) | exact st.c5 (by first | decide | omega) | exact st.c6 (by first | decide | omega) | exact st.c7 (by first | decide | omega) | exact st.c8 (by first | decide | omega))) rfl rfl rfl ?_
          -- R6.12 56 := heap.go:63 move
          refine QL.v (fun w st => by first | exact r_move (v := .int _ _) rfl | exact r_move rfl) rfl rfl rfl ?_
          -- R6.13 57 := heap.go:63 indexAddr
          refine QL.v (fun w st => by exact r_indexS (j := 2 * i + 2) ty_sl78 rfl rfl (by omega) (by omega)) rfl rfl rfl ?_
          -- R6.14 58 := heap.go:63 load
          refine QL.v (fun w st => by exact r_loadL (vs := [_, _]) ty_agg67 rfl ⟨((st.c1 (by omega)).trans (congrArg some (hit (2 * i + 2) (by omega)).1)), ((st.c1 (by omega)).trans (congrArg some (hit (2 * i + 2) (by omega)).2)), trivial⟩) rfl rfl rfl ?_
          -- R6.15 59 := heap.go:63 move
          refine QL.v (fun w st => by first | exact r_move (v := .pointer _) rfl | exact r_move rfl) rfl rfl rfl ?_
          -- R6.16 60 := heap.go:63 nilCheck
          refine QL.v (fun w st => by exact r_nilCheck rfl) rfl rfl rfl ?_
          -- R6.17 61 := heap.go:63 fieldAddr
          refine QL.v (fun w st => by exact r_field ty_fld80_0 rfl) rfl rfl rfl ?_
          -- R6.18 62 := heap.go:63 load
          refine QL.v (fun w st => by exact r_load1 ty_one78 rfl (by first | assumption | exact st.c0 (by first | decide | omega) | exact st.c1 (by first | decide | omega) | exact st.c2 (by first | decide | omega) | exact st.c3 (by first | decide | omega) | exact st.c4 (by first | decide | omega) | exact st.c5 (by first | decide | omega) | exact st.c6 (by first | decide | omega) | exact st.c7 (by first | decide | omega) | exact st.c8 (by first | decide | omega))) rfl rfl rfl ?_
          -- R6.19 63 := heap.go:63 move
          refine QL.v (fun w st => by first | exact r_move (v := .int _ _) rfl | exact r_move rfl) rfl rfl rfl ?_
          -- R6.20 64 := heap.go:63 indexAddr
          refine QL.v (fun w st => by exact r_indexS (j := i) ty_sl78 rfl rfl (by omega) (by omega)) rfl rfl rfl ?_
          -- R6.21 65 := heap.go:63 load
          refine QL.v (fun w st => by exact r_loadL (vs := [_, _]) ty_agg67 rfl ⟨((st.c1 (by omega)).trans (congrArg some (hit i (by omega)).1)), ((st.c1 (by omega)).trans (congrArg some (hit i (by omega)).2)), trivial⟩) rfl rfl rfl ?_
          -- R6.22 66 := heap.go:63 call
          refine QL.call (val := .bool false) (fun w st => r_callv ty_call13 rfl rfl) rfl rfl rfl (fun w st => less_true (hG.more [_, _]) (hokj _ (by omega)) (hokj _ (by omega)) false (decide_eq_false hrl) st) ?_
          -- R6.23 67 := heap.go:63 pick
          refine QL.v (fun w st => by first | exact r_pickT (v := .bool _) rfl rfl | exact r_pickF (v := .bool _) rfl rfl) rfl rfl rfl ?_
          refine QL.wl hKq fun w st => ?_
          refine WL.fin hK410 (fun _ _ h => h) ?_
          refine WC.condF rfl rfl ?_
          refine WC.skipF hK408 (fun _ _ h => h) ?_
          refine WC.seq fun K411 hK411 => ?_
          refine WC.seq fun K412 hK412 => ?_
          -- region 8
          refine WC.region ?_
          -- R8.0 69 := heap.go:66 move
          refine WL.v (by first | exact r_move (v := .int _ _) rfl | exact r_move rfl) rfl rfl rfl ?_
          -- R8.1 70 := heap.go:66 move
          refine WL.v (by first | exact r_move (v := .int _ _) rfl | exact r_move rfl) rfl rfl rfl ?_
          -- R8.2 71 := heap.go:66 binOp
          refine WL.v (by first | exact r_eql rfl rfl (decide_eq_true (by omega)) | exact r_eql rfl rfl (decide_eq_false (by omega)) | exact r_eql rfl rfl rfl) rfl rfl rfl ?_
          refine WL.fin hK412 (fun _ _ h => h) ?_
          refine WC.condT rfl rfl ?_
          refine WC.ret0 Try.results21 (fun _ _ h => h) ?_
          exact ⟨_, rfl, f, jt, hit, hdn.done (fun _ => Int.not_lt.1 hll) (fun _ => Int.not_lt.1 hrl), hperm, st⟩
      · skip
        refine WC.block ?_
        refine WC.seq fun K413 hK413 => ?_
        -- region 1
        refine WC.region ?_
        -- R1.0 12 := heap.go:59 move
        refine WL.v (by first | exact r_move (v := .int _ _) rfl | exact r_move rfl) rfl rfl rfl ?_
        -- R1.1 4 := heap.go:59 assign
        refine WL.v (by first | exact r_assign (v := .int _ _) rfl | exact r_assign rfl) rfl rfl rfl ?_
        refine WL.fin hK413 (fun _ _ h => h) ?_
        refine WC.seq fun K414 hK414 => ?_
        refine WC.seq fun K415 hK415 => ?_
        -- region 2
        refine WC.region ?_
        -- R2.0 13 := heap.go:60 move
        refine WL.v (by first | exact r_move (v := .int _ _) rfl | exact r_move rfl) rfl rfl rfl ?_
        -- R2.1 14 := heap.go:60 binOp
        refine WL.v (by exact r_mul (r := ((2 * i : Nat) : Int)) rfl rfl (by rw [wi64 (by omega) (by omega)]; omega)) rfl rfl rfl ?_
        -- R2.2 15 := heap.go:60 binOp
        refine WL.v (by exact r_add (r := ((2 * i + 1 : Nat) : Int)) rfl rfl (by rw [wi64 (by omega) (by omega)]; omega)) rfl rfl rfl ?_
        -- R2.3 5 := heap.go:60 assign
        refine WL.v (by first | exact r_assign (v := .int _ _) rfl | exact r_assign rfl) rfl rfl rfl ?_
        refine WL.fin hK415 (fun _ _ h => h) ?_
        refine WC.seq fun K416 hK416 => ?_
        -- region 3 (draws)
        refine WC.quietS st ty_mixed (by kernel_rfl) fun Kq hKq => ?_
        -- R3.0 16 := heap.go:60 move
        refine QL.v (fun w st => by first | exact r_move (v := .int _ _) rfl | exact r_move rfl) rfl rfl rfl ?_
        -- R3.1 17 := heap.go:60 move
        refine QL.v (fun w st => by first | exact r_move (v := .int _ _) rfl | exact r_move rfl) rfl rfl rfl ?_
        -- R3.2 18 := heap.go:60 binOp
        refine QL.v (fun w st => by first | exact r_lss rfl rfl (decide_eq_true (by omega)) | exact r_lss rfl rfl (decide_eq_false (by omega)) | exact r_lss rfl rfl rfl) rfl rfl rfl ?_
        -- R3.3 19 := heap.go:60 move
        refine QL.v (fun w st => by first | exact r_move (v := .bool _) rfl | exact r_move rfl) rfl rfl rfl ?_
        -- R3.4 20 := heap.go:60 move
        refine QL.v (fun w st => by first | exact r_move (v := .pointer _) rfl | exact r_move rfl) rfl rfl rfl ?_
        -- R3.5 21 := heap.go:60 nilCheck
        refine QL.v (fun w st => by exact r_nilCheck rfl) rfl rfl rfl ?_
        -- R3.6 22 := heap.go:60 fieldAddr
        refine QL.v (fun w st => by exact r_field ty_fld80_1 rfl) rfl rfl rfl ?_
        -- R3.7 23 := heap.go:60 load
        refine QL.v (fun w st => by exact r_load1 ty_one71 rfl (by first | assumption | exact st.c0 (by first | decide | omega) | exact st.c1 (by first | decide | omega) | exact st.c2 (by first | decide | omega) | exact st.c3 (by first | decide | omega) | exact st.c4 (by first | decide | omega) | exact st.c5 (by first | decide | omega) | exact st.c6 (by first | decide | omega) | exact st.c7 (by first | decide | omega) | exact st.c8 (by first | decide | omega))) rfl rfl rfl ?_
        -- R3.8 24 := heap.go:60 move
        refine QL.v (fun w st => by first | exact r_move (v := .pointer _) rfl | exact r_move rfl) rfl rfl rfl ?_
        -- R3.9 25 := heap.go:60 nilCheck
        refine QL.v (fun w st => by exact r_nilCheck rfl) rfl rfl rfl ?_
        -- R3.10 26 := heap.go:60 fieldAddr
        refine QL.v (fun w st => by exact r_field ty_fld80_0 rfl) rfl rfl rfl ?_
        -- R3.11 27 := heap.go:60 load
        refine QL.v (fun w st => by exact r_load1 ty_one78 rfl (by first | assumption | exact st.c0 (by first | decide | omega) | exact st.c1 (by first | decide | omega) | exact st.c2 (by first | decide | omega) | exact st.c3 (by first | decide | omega) | exact st.c4 (by first | decide | omega) | exact st.c5 (by first | decide | omega) | exact st.c6 (by first | decide | omega) | exact st.c7 (by first | decide | omega) | exact st.c8 (by first | decide | omega))) rfl rfl rfl ?_
        -- R3.12 28 := heap.go:60 move
        refine QL.v (fun w st => by first | exact r_move (v := .int _ _) rfl | exact r_move rfl) rfl rfl rfl ?_
        -- R3.13 29 := heap.go:60 indexAddr
        refine QL.v (fun w st => by exact r_indexS (j := 2 * i + 1) ty_sl78 rfl rfl (by omega) (by omega)) rfl rfl rfl ?_
        -- R3.14 30 := heap.go:60 load
        refine QL.v (fun w st => by exact r_loadL (vs := [_, _]) ty_agg67 rfl ⟨((st.c1 (by omega)).trans (congrArg some (hit (2 * i + 1) (by omega)).1)), ((st.c1 (by omega)).trans (congrArg some (hit (2 * i + 1) (by omega)).2)), trivial⟩) rfl rfl rfl ?_
        -- R3.15 31 := heap.go:60 move
        refine QL.v (fun w st => by first | exact r_move (v := .pointer _) rfl | exact r_move rfl) rfl rfl rfl ?_
        -- R3.16 32 := heap.go:60 nilCheck
        refine QL.v (fun w st => by exact r_nilCheck rfl) rfl rfl rfl ?_
        -- R3.17 33 := heap.go:60 fieldAddr
        refine QL.v (fun w st => by exact r_field ty_fld80_0 rfl) rfl rfl rfl ?_
        -- R3.18 34 := heap.go:60 load
        refine QL.v (fun w st => by exact r_load1 ty_one78 rfl (by first | assumption | exact st.c0 (by first | decide | omega) | exact st.c1 (by first | decide | omega) | exact st.c2 (by first | decide | omega) | exact st.c3 (by first | decide | omega) | exact st.c4 (by first | decide | omega) | exact st.c5 (by first | decide | omega) | exact st.c6 (by first | decide | omega) | exact st.c7 (by first | decide | omega) | exact st.c8 (by first | decide | omega))) rfl rfl rfl ?_
        -- R3.19 35 := heap.go:60 move
        refine QL.v (fun w st => by first | exact r_move (v := .int _ _) rfl | exact r_move rfl) rfl rfl rfl ?_
        -- R3.20 36 := heap.go:60 indexAddr
        refine QL.v (fun w st => by exact r_indexS (j := i) ty_sl78 rfl rfl (by omega) (by omega)) rfl rfl rfl ?_
        -- R3.21 37 := heap.go:60 load
        refine QL.v (fun w st => by exact r_loadL (vs := [_, _]) ty_agg67 rfl ⟨((st.c1 (by omega)).trans (congrArg some (hit i (by omega)).1)), ((st.c1 (by omega)).trans (congrArg some (hit i (by omega)).2)), trivial⟩) rfl rfl rfl ?_
        -- R3.22 38 := heap.go:60 call
        refine QL.call (val := .bool false) (fun w st => r_callv ty_call13 rfl rfl) rfl rfl rfl (fun w st => less_true (hG.more [_, _]) (hokj _ (by omega)) (hokj _ (by omega)) false (decide_eq_false hll) st) ?_
        -- R3.23 39 := heap.go:60 pick
        refine QL.v (fun w st => by first | exact r_pickT (v := .bool _) rfl rfl | exact r_pickF (v := .bool _) rfl rfl) rfl rfl rfl ?_
        refine QL.wl hKq fun w st => ?_
        refine WL.fin hK416 (fun _ _ h => h) ?_
        refine WC.condF rfl rfl ?_
        refine WC.skipF hK414 (fun _ _ h => h) ?_
        refine WC.seq fun K417 hK417 => ?_
        refine WC.seq fun K418 hK418 => ?_
        -- region 5
        refine WC.region ?_
        -- R5.0 41 := heap.go:63 move
        refine WL.v (by first | exact r_move (v := .int _ _) rfl | exact r_move rfl) rfl rfl rfl ?_
        -- R5.1 42 := heap.go:63 binOp
        refine WL.v (by exact r_mul (r := ((2 * i : Nat) : Int)) rfl rfl (by rw [wi64 (by omega) (by omega)]; omega)) rfl rfl rfl ?_
        -- R5.2 43 := heap.go:63 binOp
        refine WL.v (by exact r_add (r := ((2 * i + 2 : Nat) : Int)) rfl rfl (by rw [wi64 (by omega) (by omega)]; omega)) rfl rfl rfl ?_
        -- R5.3 6 := heap.go:63 assign
        refine WL.v (by first | exact r_assign (v := .int _ _) rfl | exact r_assign rfl) rfl rfl rfl ?_
        refine WL.fin hK418 (fun _ _ h => h) ?_
        refine WC.seq fun K419 hK419 => ?_
        -- region 6 (draws)
        refine WC.quietS st ty_mixed (by kernel_rfl) fun Kq hKq => ?_
        -- R6.0 44 := heap.go:63 move
        refine QL.v (fun w st => by first | exact r_move (v := .int _ _) rfl | exact r_move rfl) rfl rfl rfl ?_
        -- R6.1 45 := heap.go:63 move
        refine QL.v (fun w st => by first | exact r_move (v := .int _ _) rfl | exact r_move rfl) rfl rfl rfl ?_
        -- R6.2 46 := heap.go:63 binOp
        refine QL.v (fun w st => by first | exact r_lss rfl rfl (decide_eq_true (by omega)) | exact r_lss rfl rfl (decide_eq_false (by omega)) | exact r_lss rfl rfl rfl) rfl rfl rfl ?_
        -- R6.3 47 := heap.go:63 move
        refine QL.v (fun w st => by first | exact r_move (v := .bool _) rfl | exact r_move rfl) rfl rfl rfl ?_
        -- R6.4 48 := heap.go:63 move
        refine QL.no rfl rfl ?_
        -- R6.5 49 := heap.go:63 nilCheck
        refine QL.no rfl rfl ?_
        -- R6.6 50 := heap.go:63 fieldAddr
        refine QL.no rfl rfl ?_
        -- R6.7 51 := heap.go:63 load
        refine QL.no rfl rfl ?_
        -- R6.8 52 := heap.go:63 move
        refine QL.no rfl rfl ?_
        -- R6.9 53 := heap.go:63 nilCheck
        refine QL.no rfl rfl ?_
        -- R6.10 54 := heap.go:63 fieldAddr
        refine QL.no rfl rfl ?_
        -- R6.11 55 := heap.go:63 load
        refine QL.no rfl rfl ?_
        -- R6.12 56 := heap.go:63 move
        refine QL.no rfl rfl ?_
        -- R6.13 57 := heap.go:63 indexAddr
        refine QL.no rfl rfl ?_
        -- R6.14 58 := heap.go:63 load
        refine QL.no rfl rfl ?_
        -- R6.15 59 := heap.go:63 move
        refine QL.no rfl rfl ?_
        -- R6.16 60 := heap.go:63 nilCheck
        refine QL.no rfl rfl ?_
        -- R6.17 61 := heap.go:63 fieldAddr
        refine QL.no rfl rfl ?_
        -- R6.18 62 := heap.go:63 load
        refine QL.no rfl rfl ?_
        -- R6.19 63 := heap.go:63 move
        refine QL.no rfl rfl ?_
        -- R6.20 64 := heap.go:63 indexAddr
        refine QL.no rfl rfl ?_
        -- R6.21 65 := heap.go:63 load
        refine QL.no rfl rfl ?_
        -- R6.22 66 := heap.go:63 call
        refine QL.no rfl rfl ?_
        -- R6.23 67 := heap.go:63 pick
        refine QL.v (fun w st => by first | exact r_pickT (v := .bool _) rfl rfl | exact r_pickF (v := .bool _) rfl rfl) rfl rfl rfl ?_
        refine QL.wl hKq fun w st => ?_
        refine WL.fin hK419 (fun _ _ h => h) ?_
        refine WC.condF rfl rfl ?_
        refine WC.skipF hK417 (fun _ _ h => h) ?_
        refine WC.seq fun K420 hK420 => ?_
        refine WC.seq fun K421 hK421 => ?_
        -- region 8
        refine WC.region ?_
        -- R8.0 69 := heap.go:66 move
        refine WL.v (by first | exact r_move (v := .int _ _) rfl | exact r_move rfl) rfl rfl rfl ?_
        -- R8.1 70 := heap.go:66 move
        refine WL.v (by first | exact r_move (v := .int _ _) rfl | exact r_move rfl) rfl rfl rfl ?_
        -- R8.2 71 := heap.go:66 binOp
        refine WL.v (by first | exact r_eql rfl rfl (decide_eq_true (by omega)) | exact r_eql rfl rfl (decide_eq_false (by omega)) | exact r_eql rfl rfl rfl) rfl rfl rfl ?_
        refine WL.fin hK421 (fun _ _ h => h) ?_
        refine WC.condT rfl rfl ?_
        refine WC.ret0 Try.results21 (fun _ _ h => h) ?_
        exact ⟨_, rfl, f, jt, hit, hdn.done (fun _ => Int.not_lt.1 hll) (fun h => absurd h hr), hperm, st⟩
  · skip
    refine WC.block ?_
    refine WC.seq fun K422 hK422 => ?_
    -- region 1
    refine WC.region ?_
    -- R1.0 12 := heap.go:59 move
    refine WL.v (by first | exact r_move (v := .int _ _) rfl | exact r_move rfl) rfl rfl rfl ?_
    -- R1.1 4 := heap.go:59 assign
    refine WL.v (by first | exact r_assign (v := .int _ _) rfl | exact r_assign rfl) rfl rfl rfl ?_
    refine WL.fin hK422 (fun _ _ h => h) ?_
    refine WC.seq fun K423 hK423 => ?_
    refine WC.seq fun K424 hK424 => ?_
    -- region 2
    refine WC.region ?_
    -- R2.0 13 := heap.go:60 move
    refine WL.v (by first | exact r_move (v := .int _ _) rfl | exact r_move rfl) rfl rfl rfl ?_
    -- R2.1 14 := heap.go:60 binOp
    refine WL.v (by exact r_mul (r := ((2 * i : Nat) : Int)) rfl rfl (by rw [wi64 (by omega) (by omega)]; omega)) rfl rfl rfl ?_
    -- R2.2 15 := heap.go:60 binOp
    refine WL.v (by exact r_add (r := ((2 * i + 1 : Nat) : Int)) rfl rfl (by rw [wi64 (by omega) (by omega)]; omega)) rfl rfl rfl ?_
    -- R2.3 5 := heap.go:60 assign
    refine WL.v (by first | exact r_assign (v := .int _ _) rfl | exact r_assign rfl) rfl rfl rfl ?_
    refine WL.fin hK424 (fun _ _ h => h) ?_
    refine WC.seq fun K425 hK425 => ?_
    -- region 3 (draws)
    refine WC.quietS st ty_mixed (by kernel_rfl) fun Kq hKq => ?_
    -- R3.0 16 := heap.go:60 move
    refine QL.v (fun w st => by first | exact r_move (v := .int _ _) rfl | exact r_move rfl) rfl rfl rfl ?_
    -- R3.1 17 := heap.go:60 move
    refine QL.v (fun w st => by first | exact r_move (v := .int _ _) rfl | exact r_move rfl) rfl rfl rfl ?_
    -- R3.2 18 := heap.go:60 binOp
    refine QL.v (fun w st => by first | exact r_lss rfl rfl (decide_eq_true (by omega)) | exact r_lss rfl rfl (decide_eq_false (by omega)) | exact r_lss rfl rfl rfl) rfl rfl rfl ?_
    -- R3.3 19 := heap.go:60 move
    refine QL.v (fun w st => by first | exact r_move (v := .bool _) rfl | exact r_move rfl) rfl rfl rfl ?_
    -- R3.4 20 := heap.go:60 move
    refine QL.no rfl rfl ?_
    -- R3.5 21 := heap.go:60 nilCheck
    refine QL.no rfl rfl ?_
    -- R3.6 22 := heap.go:60 fieldAddr
    refine QL.no rfl rfl ?_
    -- R3.7 23 := heap.go:60 load
    refine QL.no rfl rfl ?_
    -- R3.8 24 := heap.go:60 move
    refine QL.no rfl rfl ?_
    -- R3.9 25 := heap.go:60 nilCheck
    refine QL.no rfl rfl ?_
    -- R3.10 26 := heap.go:60 fieldAddr
    refine QL.no rfl rfl ?_
    -- R3.11 27 := heap.go:60 load
    refine QL.no rfl rfl ?_
    -- R3.12 28 := heap.go:60 move
    refine QL.no rfl rfl ?_
    -- R3.13 29 := heap.go:60 indexAddr
    refine QL.no rfl rfl ?_
    -- R3.14 30 := heap.go:60 load
    refine QL.no rfl rfl ?_
    -- R3.15 31 := heap.go:60 move
    refine QL.no rfl rfl ?_
    -- R3.16 32 := heap.go:60 nilCheck
    refine QL.no rfl rfl ?_
    -- R3.17 33 := heap.go:60 fieldAddr
    refine QL.no rfl rfl ?_
    -- R3.18 34 := heap.go:60 load
    refine QL.no rfl rfl ?_
    -- R3.19 35 := heap.go:60 move
    refine QL.no rfl rfl ?_
    -- R3.20 36 := heap.go:60 indexAddr
    refine QL.no rfl rfl ?_
    -- R3.21 37 := heap.go:60 load
    refine QL.no rfl rfl ?_
    -- R3.22 38 := heap.go:60 call
    refine QL.no rfl rfl ?_
    -- R3.23 39 := heap.go:60 pick
    refine QL.v (fun w st => by first | exact r_pickT (v := .bool _) rfl rfl | exact r_pickF (v := .bool _) rfl rfl) rfl rfl rfl ?_
    refine QL.wl hKq fun w st => ?_
    refine WL.fin hK425 (fun _ _ h => h) ?_
    refine WC.condF rfl rfl ?_
    refine WC.skipF hK423 (fun _ _ h => h) ?_
    refine WC.seq fun K426 hK426 => ?_
    refine WC.seq fun K427 hK427 => ?_
    -- region 5
    refine WC.region ?_
    -- R5.0 41 := heap.go:63 move
    refine WL.v (by first | exact r_move (v := .int _ _) rfl | exact r_move rfl) rfl rfl rfl ?_
    -- R5.1 42 := heap.go:63 binOp
    refine WL.v (by exact r_mul (r := ((2 * i : Nat) : Int)) rfl rfl (by rw [wi64 (by omega) (by omega)]; omega)) rfl rfl rfl ?_
    -- R5.2 43 := heap.go:63 binOp
    refine WL.v (by exact r_add (r := ((2 * i + 2 : Nat) : Int)) rfl rfl (by rw [wi64 (by omega) (by omega)]; omega)) rfl rfl rfl ?_
    -- R5.3 6 := heap.go:63 assign
    refine WL.v (by first | exact r_assign (v := .int _ _) rfl | exact r_assign rfl) rfl rfl rfl ?_
    refine WL.fin hK427 (fun _ _ h => h) ?_
    refine WC.seq fun K428 hK428 => ?_
    -- region 6 (draws)
    refine WC.quietS st ty_mixed (by kernel_rfl) fun Kq hKq => ?_
    -- R6.0 44 := heap.go:63 move
    refine QL.v (fun w st => by first | exact r_move (v := .int _ _) rfl | exact r_move rfl) rfl rfl rfl ?_
    -- R6.1 45 := heap.go:63 move
    refine QL.v (fun w st => by first | exact r_move (v := .int _ _) rfl | exact r_move rfl) rfl rfl rfl ?_
    -- R6.2 46 := heap.go:63 binOp
    refine QL.v (fun w st => by first | exact r_lss rfl rfl (decide_eq_true (by omega)) | exact r_lss rfl rfl (decide_eq_false (by omega)) | exact r_lss rfl rfl rfl) rfl rfl rfl ?_
    -- R6.3 47 := heap.go:63 move
    refine QL.v (fun w st => by first | exact r_move (v := .bool _) rfl | exact r_move rfl) rfl rfl rfl ?_
    -- R6.4 48 := heap.go:63 move
    refine QL.no rfl rfl ?_
    -- R6.5 49 := heap.go:63 nilCheck
    refine QL.no rfl rfl ?_
    -- R6.6 50 := heap.go:63 fieldAddr
    refine QL.no rfl rfl ?_
    -- R6.7 51 := heap.go:63 load
    refine QL.no rfl rfl ?_
    -- R6.8 52 := heap.go:63 move
    refine QL.no rfl rfl ?_
    -- R6.9 53 := heap.go:63 nilCheck
    refine QL.no rfl rfl ?_
    -- R6.10 54 := heap.go:63 fieldAddr
    refine QL.no rfl rfl ?_
    -- R6.11 55 := heap.go:63 load
    refine QL.no rfl rfl ?_
    -- R6.12 56 := heap.go:63 move
    refine QL.no rfl rfl ?_
    -- R6.13 57 := heap.go:63 indexAddr
    refine QL.no rfl rfl ?_
    -- R6.14 58 := heap.go:63 load
    refine QL.no rfl rfl ?_
    -- R6.15 59 := heap.go:63 move
    refine QL.no rfl rfl ?_
    -- R6.16 60 := heap.go:63 nilCheck
    refine QL.no rfl rfl ?_
    -- R6.17 61 := heap.go:63 fieldAddr
    refine QL.no rfl rfl ?_
    -- R6.18 62 := heap.go:63 load
    refine QL.no rfl rfl ?_
    -- R6.19 63 := heap.go:63 move
    refine QL.no rfl rfl ?_
    -- R6.20 64 := heap.go:63 indexAddr
    refine QL.no rfl rfl ?_
    -- R6.21 65 := heap.go:63 load
    refine QL.no rfl rfl ?_
    -- R6.22 66 := heap.go:63 call
    refine QL.no rfl rfl ?_
    -- R6.23 67 := heap.go:63 pick
    refine QL.v (fun w st => by first | exact r_pickT (v := .bool _) rfl rfl | exact r_pickF (v := .bool _) rfl rfl) rfl rfl rfl ?_
    refine QL.wl hKq fun w st => ?_
    refine WL.fin hK428 (fun _ _ h => h) ?_
    refine WC.condF rfl rfl ?_
    refine WC.skipF hK426 (fun _ _ h => h) ?_
    refine WC.seq fun K429 hK429 => ?_
    refine WC.seq fun K430 hK430 => ?_
    -- region 8
    refine WC.region ?_
    -- R8.0 69 := heap.go:66 move
    refine WL.v (by first | exact r_move (v := .int _ _) rfl | exact r_move rfl) rfl rfl rfl ?_
    -- R8.1 70 := heap.go:66 move
    refine WL.v (by first | exact r_move (v := .int _ _) rfl | exact r_move rfl) rfl rfl rfl ?_
    -- R8.2 71 := heap.go:66 binOp
    refine WL.v (by first | exact r_eql rfl rfl (decide_eq_true (by omega)) | exact r_eql rfl rfl (decide_eq_false (by omega)) | exact r_eql rfl rfl rfl) rfl rfl rfl ?_
    refine WL.fin hK430 (fun _ _ h => h) ?_
    refine WC.condT rfl rfl ?_
    refine WC.ret0 Try.results21 (fun _ _ h => h) ?_
    exact ⟨_, rfl, f, jt, hit, hdn.done (fun h => absurd h hl) (fun h => absurd (show 2 * i + 1 < n by omega) hl), hperm, st⟩
end Go.Proofs.Qxb6500835a

