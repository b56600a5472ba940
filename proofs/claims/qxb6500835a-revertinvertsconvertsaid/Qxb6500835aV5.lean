import Derived.Test.Qxb6500835aV4
set_option linter.unusedVariables false
set_option linter.unusedSimpArgs false
namespace Go.Proofs.Qxb6500835a
open Go.RowKit Go.E1 Go.Conv

theorem range_head {α : Type} (it : Nat → α) {n : Nat} (h : 0 < n) : (List.range n).map it = it 0 :: (List.range (n - 1)).map fun k => it (k + 1) := by
  obtain ⟨m, rfl⟩ : ∃ m, n = m + 1 := ⟨n - 1, by omega⟩
  rw [List.range_succ_eq_map, List.map_cons, List.map_map]
  rfl

theorem range_pop {α : Type} (it : Nat → α) {n : Nat} (h : 0 < n) : ((List.range (n - 1)).map fun k => if k = 0 then it (n - 1) else it k).Perm ((List.range (n - 1)).map fun k => it (k + 1)) := by
  obtain ⟨m, rfl⟩ : ∃ m, n = m + 1 := ⟨n - 1, by omega⟩
  rw [show m + 1 - 1 = m by omega]
  cases m with
  | zero => exact List.Perm.refl _
  | succ m =>
    rw [range_head _ (show 0 < m + 1 by omega), if_pos rfl, List.range_succ, List.map_append]
    refine List.Perm.trans ?_ List.perm_append_comm
    simp only [List.map_cons, List.map_nil, List.singleton_append]
    refine List.Perm.cons _ (List.Perm.of_eq ?_)
    rw [show m + 1 - 1 = m by omega]
    exact List.map_congr_left fun k _ => by rw [if_neg (by omega)]

theorem ItR.less {f : Nat → Value} {n m : Nat} {it : Nat → Nat × Nat} (h : ItR f n it) (hm : m ≤ n) : ItR f m it := fun k hk => h k (by omega)

set_option maxHeartbeats 4000000 in
theorem replace_ok (hb ib n : Nat) (f : Nat → Value) (it : Nat → Nat × Nat) (c : Nat × Nat) {w0 : World} {M : Nat → Prop} {L : List HI} {w : World} {b1 b8 : Nat} {ga : Option Addr} {q gc g o : Nat} {I : Nat → Int} {db dO dl dc : Nat → Nat} {D : Nat → Nat → Int} (hG : Grs w0 M L b1 b8 ga q gc g o I db dO dl dc D)
    (hq : q ≤ 65536) (h0 : 0 < n) (hn : n ≤ q) (hit : ItR f n it) (hok : ∀ i, i < n → (it i).1 < q ∧ (it i).2 < dl (it i).1) (hc : c.1 < q ∧ c.2 < dl c.1) (hhp : HP (fun c : Nat × Nat => D c.1 c.2) it n)
    (st : St w0 M ((hb, Row 80 2 (heapR ib n q b8)) :: (ib, Row 67 (q * 2) f) :: L) w) :
    Calls Try.prog 17 #[.pointer (some ⟨hb, 0, none⟩), .agg #[.int .i64 (c.1 : Nat), .int .i64 (c.2 : Nat)]] w (Ret fun v w' => ∃ f' it', ItR f' n it' ∧ HP (fun c : Nat × Nat => D c.1 c.2) it' n ∧ ((List.range n).map it').Perm (c :: (List.range (n - 1)).map fun k => it (k + 1)) ∧
      St w0 M ((hb, Row 80 2 (heapR ib n q b8)) :: (ib, Row 67 (q * 2) f') :: L) w') := by
  have hp0 : ((List.range n).map fun k => if k = 0 then c else it k) = c :: (List.range (n - 1)).map fun k => it (k + 1) := by
    rw [range_head _ h0, if_pos rfl]
    congr 1
  refine enter [.pointer (some ⟨hb, 0, none⟩), .agg #[.int .i64 (c.1 : Nat), .int .i64 (c.2 : Nat)]] Try.func17 rfl Try.ntmps17 rfl ?_
  show WC _ _ _ 12 [] [(0, .pointer (some ⟨hb, 0, none⟩)), (1, .agg #[.int .i64 (c.1 : Nat), .int .i64 (c.2 : Nat)])] _
  refine WC.seq fun K431 hK431 => ?_
  -- region 0
  refine WC.region ?_
  -- R0.0 3 := heap.go:44 box
  first | refine WL.box (m := 2) (vs := [.int _ _, .int _ _]) st rfl rfl rfl rfl rfl rfl ?_ | refine WL.box (m := 2) (vs := [_, _]) st rfl rfl rfl rfl rfl rfl ?_ | refine WL.box st rfl rfl rfl rfl rfl rfl ?_
  intro b3 w st
  refine WL.fin hK431 (fun _ _ h => h) ?_
  refine WC.seq fun K432 hK432 => ?_
  -- region 1 (draws)
  refine WC.tailS 6 st ty_mixed (by kernel_rfl) fun w st Kq hKq => ?_
  -- R1.0 4 := heap.go:45 move
  refine SL.v (by first | exact r_move (v := .pointer _) rfl | exact r_move rfl) rfl rfl rfl ?_
  -- R1.1 5 := heap.go:45 nilCheck
  refine SL.v (by exact r_nilCheck rfl) rfl rfl rfl ?_
  -- R1.2 6 := heap.go:45 fieldAddr
  refine SL.v (by exact r_field ty_fld80_0 rfl) rfl rfl rfl ?_
  -- R1.3 7 := heap.go:45 load
  refine SL.v (by exact r_load1 ty_one78 rfl (by first | assumption | exact st.c0 (by first | decide | omega) | exact st.c1 (by first | decide | omega) | exact st.c2 (by first | decide | omega) | exact st.c3 (by first | decide | omega) | exact st.c4 (by first | decide | omega) | exact st.c5 (by first | decide | omega) | exact st.c6 (by first | decide | omega) | exact st.c7 (by first | decide | omega) | exact st.c8 (by first | decide | omega))) rfl rfl rfl ?_
  -- R1.4 8 := heap.go:45 load
  refine SL.v (by exact r_loadL (vs := [_, _]) ty_agg67 rfl ⟨(by first | assumption | exact st.c0 (by first | decide | omega) | exact st.c1 (by first | decide | omega) | exact st.c2 (by first | decide | omega) | exact st.c3 (by first | decide | omega) | exact st.c4 (by first | decide | omega) | exact st.c5 (by first | decide | omega) | exact st.c6 (by first | decide | omega) | exact st.c7 (by first | decide | omega) | exact st.c8 (by first | decide | omega)), (by first | assumption | exact st.c0 (by first | decide | omega) | exact st.c1 (by first | decide | omega) | exact st.c2 (by first | decide | omega) | exact st.c3 (by first | decide | omega) | exact st.c4 (by first | decide | omega) | exact st.c5 (by first | decide | omega) | exact st.c6 (by first | decide | omega) | exact st.c7 (by first | decide | omega) | exact st.c8 (by first | decide | omega)), trivial⟩) rfl rfl rfl ?_
  -- R1.5 9 := heap.go:45 indexAddr
  refine SL.v (by exact r_indexS (j := 0) ty_sl78 rfl rfl rfl (by first | decide | omega)) rfl rfl rfl ?_
  refine SL.fin hKq ?_
  -- R1.6 None := heap.go:45 store
  first | refine WL.storeW (vs := [_, _]) st ty_agg67 rfl rfl rfl rfl rfl rfl ?_ | refine WL.storeL (vs := [_, _]) st ty_agg67 rfl rfl rfl rfl (by first | decide | omega) rfl rfl ?_ | refine WL.storeW (vs := [_, _]) st.front1 ty_agg67 rfl rfl rfl rfl rfl rfl ?_ | refine WL.storeL (vs := [_, _]) st.front1 ty_agg67 rfl rfl rfl rfl (by first | decide | omega) rfl rfl ?_ | refine WL.storeW (vs := [_, _]) st.front2 ty_agg67 rfl rfl rfl rfl rfl rfl ?_ | refine WL.storeL (vs := [_, _]) st.front2 ty_agg67 rfl rfl rfl rfl (by first | decide | omega) rfl rfl ?_ | refine WL.storeW (vs := [_, _]) st.front3 ty_agg67 rfl rfl rfl rfl rfl rfl ?_ | refine WL.storeL (vs := [_, _]) st.front3 ty_agg67 rfl rfl rfl rfl (by first | decide | omega) rfl rfl ?_ | refine WL.storeW (vs := [_, _]) st.front4 ty_agg67 rfl rfl rfl rfl rfl rfl ?_ | refine WL.storeL (vs := [_, _]) st.front4 ty_agg67 rfl rfl rfl rfl (by first | decide | omega) rfl rfl ?_ | refine WL.storeW (vs := [_, _]) st.front5 ty_agg67 rfl rfl rfl rfl rfl rfl ?_ | refine WL.storeL (vs := [_, _]) st.front5 ty_agg67 rfl rfl rfl rfl (by first | decide | omega) rfl rfl ?_ | refine WL.storeW (vs := [_, _]) st.front6 ty_agg67 rfl rfl rfl rfl rfl rfl ?_ | refine WL.storeL (vs := [_, _]) st.front6 ty_agg67 rfl rfl rfl rfl (by first | decide | omega) rfl rfl ?_ | refine WL.storeW (vs := [_, _]) st.front7 ty_agg67 rfl rfl rfl rfl rfl rfl ?_ | refine WL.storeL (vs := [_, _]) st.front7 ty_agg67 rfl rfl rfl rfl (by first | decide | omega) rfl rfl ?_ | refine WL.storeW (vs := [_, _]) st.front8 ty_agg67 rfl rfl rfl rfl rfl rfl ?_ | refine WL.storeL (vs := [_, _]) st.front8 ty_agg67 rfl rfl rfl rfl (by first | decide | omega) rfl rfl ?_
  intro w st
  refine WL.fin hK432 (fun _ _ h => h) ?_
  -- region 2
  have st := st.drop1.front1
  refine WC.region ?_
  -- R2.0 10 := heap.go:46 move
  refine WL.v (by first | exact r_move (v := .pointer _) rfl | exact r_move rfl) rfl rfl rfl ?_
  -- R2.1 11 := heap.go:46 call
  refine WL.call (r_call ty_call21 rfl) rfl rfl rfl (sink_ok hb ib n _ (fun k => if k = 0 then c else it k) hG hq hn (hit.set c) (fun i hi => ?_) (Down.start hhp (Nat.le_refl _) (fun k h1 _ => if_neg (by omega))) st) ?_
  · show (if i = 0 then c else it i).1 < q ∧ (if i = 0 then c else it i).2 < dl (if i = 0 then c else it i).1
    by_cases hi0 : i = 0
    · rw [if_pos hi0]; exact hc
    · rw [if_neg hi0]; exact hok i hi
  rintro v w ⟨f', it', h1, h2, h3, st⟩
  refine WL.end0 Try.results17 (fun _ _ h => h) ?_
  exact ⟨_, rfl, f', it', h1, h2, h3.trans (List.Perm.of_eq hp0), st⟩

set_option maxHeartbeats 4000000 in
theorem pop_ok (hb ib n : Nat) (f : Nat → Value) (it : Nat → Nat × Nat) {w0 : World} {M : Nat → Prop} {L : List HI} {w : World} {b1 b8 : Nat} {ga : Option Addr} {q gc g o : Nat} {I : Nat → Int} {db dO dl dc : Nat → Nat} {D : Nat → Nat → Int} (hG : Grs w0 M L b1 b8 ga q gc g o I db dO dl dc D)
    (hq : q ≤ 65536) (h0 : 0 < n) (hn : n ≤ q) (hit : ItR f n it) (hok : ∀ i, i < n → (it i).1 < q ∧ (it i).2 < dl (it i).1) (hhp : HP (fun c : Nat × Nat => D c.1 c.2) it n)
    (st : St w0 M ((hb, Row 80 2 (heapR ib n q b8)) :: (ib, Row 67 (q * 2) f) :: L) w) :
    Calls Try.prog 18 #[.pointer (some ⟨hb, 0, none⟩)] w (Ret fun v w' => ∃ f' it', ItR f' (n - 1) it' ∧ HP (fun c : Nat × Nat => D c.1 c.2) it' (n - 1) ∧ ((List.range (n - 1)).map it').Perm ((List.range (n - 1)).map fun k => it (k + 1)) ∧
      St w0 M ((hb, Row 80 2 (heapR ib (n - 1) q b8)) :: (ib, Row 67 (q * 2) f') :: L) w') := by
  refine enter [.pointer (some ⟨hb, 0, none⟩)] Try.func18 rfl Try.ntmps18 rfl ?_
  show WC _ _ _ 40 [] [(0, .pointer (some ⟨hb, 0, none⟩))] _
  refine WC.seq fun K433 hK433 => ?_
  -- region 0
  refine WC.region ?_
  -- R0.0 4 := heap.go:35 move
  refine WL.v (by first | exact r_move (v := .pointer _) rfl | exact r_move rfl) rfl rfl rfl ?_
  -- R0.1 5 := heap.go:35 nilCheck
  refine WL.v (by exact r_nilCheck rfl) rfl rfl rfl ?_
  -- R0.2 6 := heap.go:35 fieldAddr
  refine WL.v (by exact r_field ty_fld80_0 rfl) rfl rfl rfl ?_
  -- R0.3 7 := heap.go:35 load
  refine WL.v (by exact r_load1 ty_one78 rfl (by first | assumption | exact st.c0 (by first | decide | omega) | exact st.c1 (by first | decide | omega) | exact st.c2 (by first | decide | omega) | exact st.c3 (by first | decide | omega) | exact st.c4 (by first | decide | omega) | exact st.c5 (by first | decide | omega) | exact st.c6 (by first | decide | omega) | exact st.c7 (by first | decide | omega) | exact st.c8 (by first | decide | omega))) rfl rfl rfl ?_
  -- R0.4 8 := heap.go:35 call
  refine WL.v (by exact r_len ty_usl78 rfl) rfl rfl rfl ?_
  -- R0.5 9 := heap.go:35 binOp
  refine WL.v (by exact r_sub (r := ((n - 1 : Nat) : Int)) rfl rfl (by rw [wi64 (by omega) (by omega)]; omega)) rfl rfl rfl ?_
  -- R0.6 2 := heap.go:35 assign
  refine WL.v (by first | exact r_assign (v := .int _ _) rfl | exact r_assign rfl) rfl rfl rfl ?_
  refine WL.fin hK433 (fun _ _ h => h) ?_
  refine WC.seq fun K434 hK434 => ?_
  -- region 1 (draws)
  refine WC.tailS 12 st ty_mixed (by kernel_rfl) fun w st Kq hKq => ?_
  -- R1.0 10 := heap.go:36 move
  refine SL.v (by first | exact r_move (v := .pointer _) rfl | exact r_move rfl) rfl rfl rfl ?_
  -- R1.1 11 := heap.go:36 nilCheck
  refine SL.v (by exact r_nilCheck rfl) rfl rfl rfl ?_
  -- R1.2 12 := heap.go:36 fieldAddr
  refine SL.v (by exact r_field ty_fld80_0 rfl) rfl rfl rfl ?_
  -- R1.3 13 := heap.go:36 load
  refine SL.v (by exact r_load1 ty_one78 rfl (by first | assumption | exact st.c0 (by first | decide | omega) | exact st.c1 (by first | decide | omega) | exact st.c2 (by first | decide | omega) | exact st.c3 (by first | decide | omega) | exact st.c4 (by first | decide | omega) | exact st.c5 (by first | decide | omega) | exact st.c6 (by first | decide | omega) | exact st.c7 (by first | decide | omega) | exact st.c8 (by first | decide | omega))) rfl rfl rfl ?_
  -- R1.4 14 := heap.go:36 move
  refine SL.v (by first | exact r_move (v := .pointer _) rfl | exact r_move rfl) rfl rfl rfl ?_
  -- R1.5 15 := heap.go:36 nilCheck
  refine SL.v (by exact r_nilCheck rfl) rfl rfl rfl ?_
  -- R1.6 16 := heap.go:36 fieldAddr
  refine SL.v (by exact r_field ty_fld80_0 rfl) rfl rfl rfl ?_
  -- R1.7 17 := heap.go:36 load
  refine SL.v (by exact r_load1 ty_one78 rfl (by first | assumption | exact st.c0 (by first | decide | omega) | exact st.c1 (by first | decide | omega) | exact st.c2 (by first | decide | omega) | exact st.c3 (by first | decide | omega) | exact st.c4 (by first | decide | omega) | exact st.c5 (by first | decide | omega) | exact st.c6 (by first | decide | omega) | exact st.c7 (by first | decide | omega) | exact st.c8 (by first | decide | omega))) rfl rfl rfl ?_
  -- R1.8 18 := heap.go:36 move
  refine SL.v (by first | exact r_move (v := .int _ _) rfl | exact r_move rfl) rfl rfl rfl ?_
  -- R1.9 19 := heap.go:36 indexAddr
  refine SL.v (by exact r_indexS (j := n - 1) ty_sl78 rfl rfl (by omega) (by omega)) rfl rfl rfl ?_
  -- R1.10 20 := heap.go:36 load
  refine SL.v (by exact r_loadL (vs := [_, _]) ty_agg67 rfl ⟨((st.c1 (by omega)).trans (congrArg some (hit (n - 1) (by omega)).1)), ((st.c1 (by omega)).trans (congrArg some (hit (n - 1) (by omega)).2)), trivial⟩) rfl rfl rfl ?_
  -- R1.11 21 := heap.go:36 indexAddr
  refine SL.v (by exact r_indexS (j := 0) ty_sl78 rfl rfl rfl (by first | decide | omega)) rfl rfl rfl ?_
  refine SL.fin hKq ?_
  -- R1.12 None := heap.go:36 store
  first | refine WL.storeW (vs := [_, _]) st ty_agg67 rfl rfl rfl rfl rfl rfl ?_ | refine WL.storeL (vs := [_, _]) st ty_agg67 rfl rfl rfl rfl (by first | decide | omega) rfl rfl ?_ | refine WL.storeW (vs := [_, _]) st.front1 ty_agg67 rfl rfl rfl rfl rfl rfl ?_ | refine WL.storeL (vs := [_, _]) st.front1 ty_agg67 rfl rfl rfl rfl (by first | decide | omega) rfl rfl ?_ | refine WL.storeW (vs := [_, _]) st.front2 ty_agg67 rfl rfl rfl rfl rfl rfl ?_ | refine WL.storeL (vs := [_, _]) st.front2 ty_agg67 rfl rfl rfl rfl (by first | decide | omega) rfl rfl ?_ | refine WL.storeW (vs := [_, _]) st.front3 ty_agg67 rfl rfl rfl rfl rfl rfl ?_ | refine WL.storeL (vs := [_, _]) st.front3 ty_agg67 rfl rfl rfl rfl (by first | decide | omega) rfl rfl ?_ | refine WL.storeW (vs := [_, _]) st.front4 ty_agg67 rfl rfl rfl rfl rfl rfl ?_ | refine WL.storeL (vs := [_, _]) st.front4 ty_agg67 rfl rfl rfl rfl (by first | decide | omega) rfl rfl ?_ | refine WL.storeW (vs := [_, _]) st.front5 ty_agg67 rfl rfl rfl rfl rfl rfl ?_ | refine WL.storeL (vs := [_, _]) st.front5 ty_agg67 rfl rfl rfl rfl (by first | decide | omega) rfl rfl ?_ | refine WL.storeW (vs := [_, _]) st.front6 ty_agg67 rfl rfl rfl rfl rfl rfl ?_ | refine WL.storeL (vs := [_, _]) st.front6 ty_agg67 rfl rfl rfl rfl (by first | decide | omega) rfl rfl ?_ | refine WL.storeW (vs := [_, _]) st.front7 ty_agg67 rfl rfl rfl rfl rfl rfl ?_ | refine WL.storeL (vs := [_, _]) st.front7 ty_agg67 rfl rfl rfl rfl (by first | decide | omega) rfl rfl ?_ | refine WL.storeW (vs := [_, _]) st.front8 ty_agg67 rfl rfl rfl rfl rfl rfl ?_ | refine WL.storeL (vs := [_, _]) st.front8 ty_agg67 rfl rfl rfl rfl (by first | decide | omega) rfl rfl ?_
  intro w st
  refine WL.fin hK434 (fun _ _ h => h) ?_
  refine WC.seq fun K435 hK435 => ?_
  -- region 2
  refine WC.region ?_
  -- R2.0 3 := heap.go:37 alloc
  refine WL.alloc st ty_zero67 rfl rfl rfl ?_
  intro b3 w st
  refine WL.fin hK435 (fun _ _ h => h) ?_
  refine WC.seq fun K436 hK436 => ?_
  -- region 3 (draws)
  refine WC.tailS 7 st ty_mixed (by kernel_rfl) fun w st Kq hKq => ?_
  -- R3.0 22 := heap.go:38 move
  refine SL.v (by first | exact r_move (v := .pointer _) rfl | exact r_move rfl) rfl rfl rfl ?_
  -- R3.1 23 := heap.go:38 nilCheck
  refine SL.v (by exact r_nilCheck rfl) rfl rfl rfl ?_
  -- R3.2 24 := heap.go:38 fieldAddr
  refine SL.v (by exact r_field ty_fld80_0 rfl) rfl rfl rfl ?_
  -- R3.3 25 := heap.go:38 load
  refine SL.v (by exact r_load1 ty_one78 rfl (by first | assumption | exact st.c0 (by first | decide | omega) | exact st.c1 (by first | decide | omega) | exact st.c2 (by first | decide | omega) | exact st.c3 (by first | decide | omega) | exact st.c4 (by first | decide | omega) | exact st.c5 (by first | decide | omega) | exact st.c6 (by first | decide | omega) | exact st.c7 (by first | decide | omega) | exact st.c8 (by first | decide | omega))) rfl rfl rfl ?_
  -- R3.4 26 := heap.go:38 move
  refine SL.v (by first | exact r_move (v := .int _ _) rfl | exact r_move rfl) rfl rfl rfl ?_
  -- R3.5 27 := heap.go:38 load
  refine SL.v (by exact r_loadL (vs := [_, _]) ty_agg67 rfl ⟨(by first | assumption | exact st.c0 (by first | decide | omega) | exact st.c1 (by first | decide | omega) | exact st.c2 (by first | decide | omega) | exact st.c3 (by first | decide | omega) | exact st.c4 (by first | decide | omega) | exact st.c5 (by first | decide | omega) | exact st.c6 (by first | decide | omega) | exact st.c7 (by first | decide | omega) | exact st.c8 (by first | decide | omega)), (by first | assumption | exact st.c0 (by first | decide | omega) | exact st.c1 (by first | decide | omega) | exact st.c2 (by first | decide | omega) | exact st.c3 (by first | decide | omega) | exact st.c4 (by first | decide | omega) | exact st.c5 (by first | decide | omega) | exact st.c6 (by first | decide | omega) | exact st.c7 (by first | decide | omega) | exact st.c8 (by first | decide | omega)), trivial⟩) rfl rfl rfl ?_
  -- R3.6 28 := heap.go:38 indexAddr
  refine SL.v (by exact r_indexS (j := n - 1) ty_sl78 rfl rfl (by omega) (by omega)) rfl rfl rfl ?_
  refine SL.fin hKq ?_
  -- R3.7 None := heap.go:38 store
  first | refine WL.storeW (vs := [_, _]) st ty_agg67 rfl rfl rfl rfl rfl rfl ?_ | refine WL.storeL (vs := [_, _]) st ty_agg67 rfl rfl rfl rfl (by first | decide | omega) rfl rfl ?_ | refine WL.storeW (vs := [_, _]) st.front1 ty_agg67 rfl rfl rfl rfl rfl rfl ?_ | refine WL.storeL (vs := [_, _]) st.front1 ty_agg67 rfl rfl rfl rfl (by first | decide | omega) rfl rfl ?_ | refine WL.storeW (vs := [_, _]) st.front2 ty_agg67 rfl rfl rfl rfl rfl rfl ?_ | refine WL.storeL (vs := [_, _]) st.front2 ty_agg67 rfl rfl rfl rfl (by first | decide | omega) rfl rfl ?_ | refine WL.storeW (vs := [_, _]) st.front3 ty_agg67 rfl rfl rfl rfl rfl rfl ?_ | refine WL.storeL (vs := [_, _]) st.front3 ty_agg67 rfl rfl rfl rfl (by first | decide | omega) rfl rfl ?_ | refine WL.storeW (vs := [_, _]) st.front4 ty_agg67 rfl rfl rfl rfl rfl rfl ?_ | refine WL.storeL (vs := [_, _]) st.front4 ty_agg67 rfl rfl rfl rfl (by first | decide | omega) rfl rfl ?_ | refine WL.storeW (vs := [_, _]) st.front5 ty_agg67 rfl rfl rfl rfl rfl rfl ?_ | refine WL.storeL (vs := [_, _]) st.front5 ty_agg67 rfl rfl rfl rfl (by first | decide | omega) rfl rfl ?_ | refine WL.storeW (vs := [_, _]) st.front6 ty_agg67 rfl rfl rfl rfl rfl rfl ?_ | refine WL.storeL (vs := [_, _]) st.front6 ty_agg67 rfl rfl rfl rfl (by first | decide | omega) rfl rfl ?_ | refine WL.storeW (vs := [_, _]) st.front7 ty_agg67 rfl rfl rfl rfl rfl rfl ?_ | refine WL.storeL (vs := [_, _]) st.front7 ty_agg67 rfl rfl rfl rfl (by first | decide | omega) rfl rfl ?_ | refine WL.storeW (vs := [_, _]) st.front8 ty_agg67 rfl rfl rfl rfl rfl rfl ?_ | refine WL.storeL (vs := [_, _]) st.front8 ty_agg67 rfl rfl rfl rfl (by first | decide | omega) rfl rfl ?_
  intro w st
  refine WL.fin hK436 (fun _ _ h => h) ?_
  refine WC.seq fun K437 hK437 => ?_
  -- region 4
  refine WC.region ?_
  -- R4.0 29 := heap.go:39 move
  refine WL.v (by first | exact r_move (v := .pointer _) rfl | exact r_move rfl) rfl rfl rfl ?_
  -- R4.1 30 := heap.go:39 move
  refine WL.v (by first | exact r_move (v := .pointer _) rfl | exact r_move rfl) rfl rfl rfl ?_
  -- R4.2 31 := heap.go:39 nilCheck
  refine WL.v (by exact r_nilCheck rfl) rfl rfl rfl ?_
  -- R4.3 32 := heap.go:39 fieldAddr
  refine WL.v (by exact r_field ty_fld80_0 rfl) rfl rfl rfl ?_
  -- R4.4 33 := heap.go:39 load
  refine WL.v (by exact r_load1 ty_one78 rfl (by first | assumption | exact st.c0 (by first | decide | omega) | exact st.c1 (by first | decide | omega) | exact st.c2 (by first | decide | omega) | exact st.c3 (by first | decide | omega) | exact st.c4 (by first | decide | omega) | exact st.c5 (by first | decide | omega) | exact st.c6 (by first | decide | omega) | exact st.c7 (by first | decide | omega) | exact st.c8 (by first | decide | omega))) rfl rfl rfl ?_
  -- R4.5 34 := heap.go:39 move
  refine WL.v (by first | exact r_move (v := .int _ _) rfl | exact r_move rfl) rfl rfl rfl ?_
  -- R4.6 35 := heap.go:39 slice
  refine WL.v (by exact r_slice_hi ty_sl78 rfl rfl (by first | rfl | omega) (by omega)) rfl rfl rfl ?_
  -- R4.7 36 := heap.go:39 nilCheck
  refine WL.v (by exact r_nilCheck rfl) rfl rfl rfl ?_
  -- R4.8 37 := heap.go:39 fieldAddr
  refine WL.v (by exact r_field ty_fld80_0 rfl) rfl rfl rfl ?_
  -- R4.9 None := heap.go:39 store
  first | refine WL.store (v := .slice _ _ _) st ty_one78 rfl rfl rfl (by first | decide | omega) rfl rfl ?_ | refine WL.store (v := _) st ty_one78 rfl rfl rfl (by first | decide | omega) rfl rfl ?_ | refine WL.store (v := .slice _ _ _) st.front1 ty_one78 rfl rfl rfl (by first | decide | omega) rfl rfl ?_ | refine WL.store (v := _) st.front1 ty_one78 rfl rfl rfl (by first | decide | omega) rfl rfl ?_ | refine WL.store (v := .slice _ _ _) st.front2 ty_one78 rfl rfl rfl (by first | decide | omega) rfl rfl ?_ | refine WL.store (v := _) st.front2 ty_one78 rfl rfl rfl (by first | decide | omega) rfl rfl ?_ | refine WL.store (v := .slice _ _ _) st.front3 ty_one78 rfl rfl rfl (by first | decide | omega) rfl rfl ?_ | refine WL.store (v := _) st.front3 ty_one78 rfl rfl rfl (by first | decide | omega) rfl rfl ?_ | refine WL.store (v := .slice _ _ _) st.front4 ty_one78 rfl rfl rfl (by first | decide | omega) rfl rfl ?_ | refine WL.store (v := _) st.front4 ty_one78 rfl rfl rfl (by first | decide | omega) rfl rfl ?_ | refine WL.store (v := .slice _ _ _) st.front5 ty_one78 rfl rfl rfl (by first | decide | omega) rfl rfl ?_ | refine WL.store (v := _) st.front5 ty_one78 rfl rfl rfl (by first | decide | omega) rfl rfl ?_ | refine WL.store (v := .slice _ _ _) st.front6 ty_one78 rfl rfl rfl (by first | decide | omega) rfl rfl ?_ | refine WL.store (v := _) st.front6 ty_one78 rfl rfl rfl (by first | decide | omega) rfl rfl ?_ | refine WL.store (v := .slice _ _ _) st.front7 ty_one78 rfl rfl rfl (by first | decide | omega) rfl rfl ?_ | refine WL.store (v := _) st.front7 ty_one78 rfl rfl rfl (by first | decide | omega) rfl rfl ?_ | refine WL.store (v := .slice _ _ _) st.front8 ty_one78 rfl rfl rfl (by first | decide | omega) rfl rfl ?_ | refine WL.store (v := _) st.front8 ty_one78 rfl rfl rfl (by first | decide | omega) rfl rfl ?_
  intro w st
  refine WL.fin hK437 (fun _ _ h => h) ?_
  -- region 5
  have st := st_heap st.drop2
  refine WC.region ?_
  -- R5.0 38 := heap.go:40 move
  refine WL.v (by first | exact r_move (v := .pointer _) rfl | exact r_move rfl) rfl rfl rfl ?_
  -- R5.1 39 := heap.go:40 call
  refine WL.call (r_call ty_call21 rfl) rfl rfl rfl (sink_ok hb ib (n - 1) _ (fun k => if k = 0 then it (n - 1) else it k) hG hq (by omega) ((((hit.set (it (n - 1))).set (0, 0)).less (by omega)).congr (fun k hk => if_neg (by omega))) (fun i hi => ?_) (Down.start hhp (by omega) (fun k h1 _ => if_neg (by omega))) st) ?_
  · show (if i = 0 then it (n - 1) else it i).1 < q ∧ (if i = 0 then it (n - 1) else it i).2 < dl (if i = 0 then it (n - 1) else it i).1
    by_cases hi0 : i = 0
    · rw [if_pos hi0]; exact hok _ (by omega)
    · rw [if_neg hi0]; exact hok i (by omega)
  rintro v w ⟨f', it', h1, h2, h3, st⟩
  refine WL.end0 Try.results18 (fun _ _ h => h) ?_
  exact ⟨_, rfl, f', it', h1, h2, h3.trans (range_pop it h0), st⟩
end Go.Proofs.Qxb6500835a

