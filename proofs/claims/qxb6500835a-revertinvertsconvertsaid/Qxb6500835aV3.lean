import Derived.Test.Qxb6500835aV2
set_option linter.unusedVariables false
set_option linter.unusedSimpArgs false
namespace Go.Proofs.Qxb6500835a
open Go.RowKit Go.E1 Go.Conv

theorem less_true {u v u' v' : Nat} {w0 : World} {M : Nat → Prop} {L : List HI} {w : World} {b1 b8 : Nat} {ga : Option Addr} {q gc g o : Nat} {I : Nat → Int} {db dO dl dc : Nat → Nat} {D : Nat → Nat → Int} (hG : Grs w0 M L b1 b8 ga q gc g o I db dO dl dc D)
    (h1 : u < q ∧ v < dl u) (h2 : u' < q ∧ v' < dl u') (t : Bool) (ht : decide (D u v < D u' v') = t) (st : St w0 M L w) :
    Calls Try.prog 13 #[.agg #[.int .i64 (u : Nat), .int .i64 (v : Nat)], .agg #[.int .i64 (u' : Nat), .int .i64 (v' : Nat)], .pointer (some ⟨b8, 0, none⟩)] w (Ret fun x w' => x = .bool t ∧ St w0 M L w') := by
  subst ht
  exact less_ok u v u' v' hG h1.1 h1.2 h2.1 h2.2 st

theorem st_heap {w0 : World} {M : Nat → Prop} {hb ib n q b8 t n' : Nat} {l : List HI} {w : World} (h : St w0 M ((hb, Row t 2 (upd (heapR ib n q b8) (0 + 0) (.slice (some ⟨ib, 0, none⟩) n' q))) :: l) w) : St w0 M ((hb, Row t 2 (heapR ib n' q b8)) :: l) w :=
  h.impc fun o ho => ho.congr fun i hi => by
    match i, hi with
    | 0, _ => rfl
    | 1, _ => rfl

theorem newHeap_ok (q b8 : Nat) (hq : q ≤ 65536) {w0 : World} {M : Nat → Prop} {L : List HI} {w : World} (st : St w0 M L w) :
    Calls Try.prog 12 #[.int .i64 (q : Nat), lessV b8] w (Ret fun v w' => ∃ hb ib f, v = .pointer (some ⟨hb, 0, none⟩) ∧ St w0 M ((hb, Row 80 2 (heapR ib 0 q b8)) :: (ib, Row 67 (q * 2) f) :: L) w') := by
  refine enter [.int .i64 (q : Nat), lessV b8] Try.func12 rfl Try.ntmps12 rfl ?_
  show WC _ _ _ 10 [] [(0, .int .i64 (q : Nat)), (1, lessV b8)] _
  refine WC.seq fun K343 hK343 => ?_
  -- region 0
  refine WC.region ?_
  -- R0.0 4 := heap.go:11 assign
  refine WL.v (by first | exact r_assign (v := .pointer _) rfl | exact r_assign rfl) rfl rfl rfl ?_
  refine WL.fin hK343 (fun _ _ h => h) ?_
  refine WC.seq fun K344 hK344 => ?_
  -- region 1
  refine WC.region ?_
  -- R1.0 5 := heap.go:12 move
  refine WL.v (by first | exact r_move (v := .int _ _) rfl | exact r_move rfl) rfl rfl rfl ?_
  -- R1.1 6 := heap.go:12 makeSlice
  refine WL.make (len := 0) st ty_mk78 ty_zero67 rfl rfl (by first | rfl | omega) (by first | rfl | omega) (by omega) (by omega) (by omega) rfl rfl rfl rfl ?_
  intro b6 w st
  -- R1.2 7 := heap.go:12 move
  refine WL.v (by first | exact r_move (v := .func _ _ _) rfl | exact r_move (v := .nilFunc) rfl | exact r_move rfl) rfl rfl rfl ?_
  -- R1.3 8 := heap.go:12 build
  refine WL.v (by first | exact r_build (vs := [.slice _ _ _, _]) ty_pl80 ty_zero80 rfl rfl | exact r_build (vs := [_, _]) ty_pl80 ty_zero80 rfl rfl | exact r_build ty_pl80 ty_zero80 rfl rfl) rfl rfl rfl ?_
  -- R1.4 9 := heap.go:12 box
  first | refine WL.box (m := 2) (vs := [.slice _ _ _, _]) st rfl rfl rfl rfl rfl rfl ?_ | refine WL.box (m := 2) (vs := [_, _]) st rfl rfl rfl rfl rfl rfl ?_ | refine WL.box st rfl rfl rfl rfl rfl rfl ?_
  intro b9 w st
  -- R1.5 4 := heap.go:12 assign
  refine WL.v (by first | exact r_assign (v := .pointer _) rfl | exact r_assign rfl) rfl rfl rfl ?_
  refine WL.fin hK344 (fun _ _ h => h) ?_
  refine WC.ret1 Try.results12 (fun _ _ h => h) rfl ?_
  exact ⟨_, rfl, b9, b6, _, rfl, st⟩

theorem top_ok (hb ib n q b8 : Nat) (f : Nat → Value) (it : Nat → Nat × Nat) {w0 : World} {M : Nat → Prop} {L : List HI} {w : World} (hn : 0 < n) (hnq : n ≤ q) (hit : ItR f n it)
    (st : St w0 M ((hb, Row 80 2 (heapR ib n q b8)) :: (ib, Row 67 (q * 2) f) :: L) w) :
    Calls Try.prog 16 #[.pointer (some ⟨hb, 0, none⟩)] w (Ret fun v w' => v = .agg #[.int .i64 ((it 0).1 : Nat), .int .i64 ((it 0).2 : Nat)] ∧ St w0 M ((hb, Row 80 2 (heapR ib n q b8)) :: (ib, Row 67 (q * 2) f) :: L) w') := by
  refine enter [.pointer (some ⟨hb, 0, none⟩)] Try.func16 rfl Try.ntmps16 rfl ?_
  show WC _ _ _ 9 [] [(0, .pointer (some ⟨hb, 0, none⟩))] _
  refine WC.seq fun K345 hK345 => ?_
  -- region 0
  refine WC.region ?_
  -- R0.0 2 := heap.go:18 alloc
  refine WL.alloc st ty_zero67 rfl rfl rfl ?_
  intro b2 w st
  refine WL.fin hK345 (fun _ _ h => h) ?_
  refine WC.seq fun K346 hK346 => ?_
  -- region 1
  refine WC.region ?_
  -- R1.0 3 := heap.go:18 move
  refine WL.v (by first | exact r_move (v := .pointer _) rfl | exact r_move rfl) rfl rfl rfl ?_
  -- R1.1 4 := heap.go:18 nilCheck
  refine WL.v (by exact r_nilCheck rfl) rfl rfl rfl ?_
  -- R1.2 5 := heap.go:18 fieldAddr
  refine WL.v (by exact r_field ty_fld80_0 rfl) rfl rfl rfl ?_
  -- R1.3 6 := heap.go:18 load
  refine WL.v (by exact r_load1 ty_one78 rfl (by first | assumption | exact st.c0 (by first | decide | omega) | exact st.c1 (by first | decide | omega) | exact st.c2 (by first | decide | omega) | exact st.c3 (by first | decide | omega) | exact st.c4 (by first | decide | omega) | exact st.c5 (by first | decide | omega) | exact st.c6 (by first | decide | omega) | exact st.c7 (by first | decide | omega) | exact st.c8 (by first | decide | omega))) rfl rfl rfl ?_
  -- R1.4 7 := heap.go:18 indexAddr
  refine WL.v (by exact r_indexS (j := 0) ty_sl78 rfl rfl rfl (by first | decide | omega)) rfl rfl rfl ?_
  -- R1.5 8 := heap.go:18 load
  refine WL.v (by exact r_loadL (vs := [_, _]) ty_agg67 rfl ⟨((st.c2 (by omega)).trans (congrArg some (hit 0 hn).1)), ((st.c2 (by omega)).trans (congrArg some (hit 0 hn).2)), trivial⟩) rfl rfl rfl ?_
  -- R1.6 None := heap.go:18 store
  first | refine WL.storeW (vs := [_, _]) st ty_agg67 rfl rfl rfl rfl rfl rfl ?_ | refine WL.storeL (vs := [_, _]) st ty_agg67 rfl rfl rfl rfl (by first | decide | omega) rfl rfl ?_ | refine WL.storeW (vs := [_, _]) st.front1 ty_agg67 rfl rfl rfl rfl rfl rfl ?_ | refine WL.storeL (vs := [_, _]) st.front1 ty_agg67 rfl rfl rfl rfl (by first | decide | omega) rfl rfl ?_ | refine WL.storeW (vs := [_, _]) st.front2 ty_agg67 rfl rfl rfl rfl rfl rfl ?_ | refine WL.storeL (vs := [_, _]) st.front2 ty_agg67 rfl rfl rfl rfl (by first | decide | omega) rfl rfl ?_ | refine WL.storeW (vs := [_, _]) st.front3 ty_agg67 rfl rfl rfl rfl rfl rfl ?_ | refine WL.storeL (vs := [_, _]) st.front3 ty_agg67 rfl rfl rfl rfl (by first | decide | omega) rfl rfl ?_ | refine WL.storeW (vs := [_, _]) st.front4 ty_agg67 rfl rfl rfl rfl rfl rfl ?_ | refine WL.storeL (vs := [_, _]) st.front4 ty_agg67 rfl rfl rfl rfl (by first | decide | omega) rfl rfl ?_ | refine WL.storeW (vs := [_, _]) st.front5 ty_agg67 rfl rfl rfl rfl rfl rfl ?_ | refine WL.storeL (vs := [_, _]) st.front5 ty_agg67 rfl rfl rfl rfl (by first | decide | omega) rfl rfl ?_ | refine WL.storeW (vs := [_, _]) st.front6 ty_agg67 rfl rfl rfl rfl rfl rfl ?_ | refine WL.storeL (vs := [_, _]) st.front6 ty_agg67 rfl rfl rfl rfl (by first | decide | omega) rfl rfl ?_ | refine WL.storeW (vs := [_, _]) st.front7 ty_agg67 rfl rfl rfl rfl rfl rfl ?_ | refine WL.storeL (vs := [_, _]) st.front7 ty_agg67 rfl rfl rfl rfl (by first | decide | omega) rfl rfl ?_ | refine WL.storeW (vs := [_, _]) st.front8 ty_agg67 rfl rfl rfl rfl rfl rfl ?_ | refine WL.storeL (vs := [_, _]) st.front8 ty_agg67 rfl rfl rfl rfl (by first | decide | omega) rfl rfl ?_
  intro w st
  refine WL.fin hK346 (fun _ _ h => h) ?_
  refine WC.retC (vs := [_, _]) Try.results16 (fun _ _ h => h) rfl ty_agg67 rfl ⟨(by first | assumption | exact st.c0 (by first | decide | omega) | exact st.c1 (by first | decide | omega) | exact st.c2 (by first | decide | omega) | exact st.c3 (by first | decide | omega) | exact st.c4 (by first | decide | omega) | exact st.c5 (by first | decide | omega) | exact st.c6 (by first | decide | omega) | exact st.c7 (by first | decide | omega) | exact st.c8 (by first | decide | omega)), (by first | assumption | exact st.c0 (by first | decide | omega) | exact st.c1 (by first | decide | omega) | exact st.c2 (by first | decide | omega) | exact st.c3 (by first | decide | omega) | exact st.c4 (by first | decide | omega) | exact st.c5 (by first | decide | omega) | exact st.c6 (by first | decide | omega) | exact st.c7 (by first | decide | omega) | exact st.c8 (by first | decide | omega)), trivial⟩ ?_
  exact ⟨_, rfl, rfl, st.drop⟩

set_option maxHeartbeats 4000000 in
theorem push_ok (hb ib n : Nat) (f : Nat → Value) (it : Nat → Nat × Nat) (c : Nat × Nat) {w0 : World} {M : Nat → Prop} {L : List HI} {w : World} {b1 b8 : Nat} {ga : Option Addr} {q gc g o : Nat} {I : Nat → Int} {db dO dl dc : Nat → Nat} {D : Nat → Nat → Int} (hG : Grs w0 M L b1 b8 ga q gc g o I db dO dl dc D)
    (hq : q ≤ 65536) (hn : n < q) (hit : ItR f n it) (hok : ∀ i, i < n → (it i).1 < q ∧ (it i).2 < dl (it i).1) (hc : c.1 < q ∧ c.2 < dl c.1) (hhp : HP (fun c : Nat × Nat => D c.1 c.2) it n)
    (st : St w0 M ((hb, Row 80 2 (heapR ib n q b8)) :: (ib, Row 67 (q * 2) f) :: L) w) :
    Calls Try.prog 14 #[.pointer (some ⟨hb, 0, none⟩), .agg #[.int .i64 (c.1 : Nat), .int .i64 (c.2 : Nat)]] w (Ret fun v w' => ∃ f' it', ItR f' (n + 1) it' ∧ HP (fun c : Nat × Nat => D c.1 c.2) it' (n + 1) ∧ ((List.range (n + 1)).map it').Perm (c :: (List.range n).map it) ∧
      St w0 M ((hb, Row 80 2 (heapR ib (n + 1) q b8)) :: (ib, Row 67 (q * 2) f') :: L) w') := by
  have hit1 : ItR (upds f (0 + n * 2) (1 * 2) (fun j => nth [.int .i64 (c.1 : Nat), .int .i64 (c.2 : Nat)] (0 + j))) (n + 1) (fun k => if k = n then c else it k) := by
    intro k hk
    by_cases hkn : k = n
    · subst hkn
      simp only [upds_eq, if_pos rfl]
      constructor
      · rw [if_pos (by omega), show 0 + k * 2 - (0 + k * 2) = 0 by omega]; rfl
      · rw [if_pos (by omega), show 0 + k * 2 + 1 - (0 + k * 2) = 1 by omega]; rfl
    · simp only [upds_eq, if_neg hkn]
      rw [if_neg (by omega), if_neg (by omega)]
      exact hit k (by omega)
  refine enter [.pointer (some ⟨hb, 0, none⟩), .agg #[.int .i64 (c.1 : Nat), .int .i64 (c.2 : Nat)]] Try.func14 rfl Try.ntmps14 rfl ?_
  show WC _ _ _ 74 [] [(0, .pointer (some ⟨hb, 0, none⟩)), (1, .agg #[.int .i64 (c.1 : Nat), .int .i64 (c.2 : Nat)])] _
  refine WC.seq fun K347 hK347 => ?_
  -- region 0
  refine WC.region ?_
  -- R0.0 3 := heap.go:20 box
  first | refine WL.box (m := 2) (vs := [.int _ _, .int _ _]) st rfl rfl rfl rfl rfl rfl ?_ | refine WL.box (m := 2) (vs := [_, _]) st rfl rfl rfl rfl rfl rfl ?_ | refine WL.box st rfl rfl rfl rfl rfl rfl ?_
  intro b3 w st
  refine WL.fin hK347 (fun _ _ h => h) ?_
  refine WC.seq fun K348 hK348 => ?_
  -- region 1 (draws)
  refine WC.heldS2 [7, 8, 9, 10] [1, 2, 3, 4, 5] [0] [6, 7, 8, 9, 10] st (st.drop2) ty_mixed (by kernel_rfl) fun w st Kq Kq2 hKq hKq2 => ?_
  -- R1.1 7 := heap.go:21 move
  refine HL.v (fun w st => by first | exact r_move (v := .pointer _) rfl | exact r_move rfl) rfl rfl rfl ?_
  -- R1.2 8 := heap.go:21 nilCheck
  refine HL.v (fun w st => by exact r_nilCheck rfl) rfl rfl rfl ?_
  -- R1.3 9 := heap.go:21 fieldAddr
  refine HL.v (fun w st => by exact r_field ty_fld80_0 rfl) rfl rfl rfl ?_
  -- R1.4 10 := heap.go:21 load
  refine HL.v (fun w st => by exact r_load1 ty_one78 rfl (by first | assumption | exact st.c0 (by first | decide | omega) | exact st.c1 (by first | decide | omega) | exact st.c2 (by first | decide | omega) | exact st.c3 (by first | decide | omega) | exact st.c4 (by first | decide | omega) | exact st.c5 (by first | decide | omega) | exact st.c6 (by first | decide | omega) | exact st.c7 (by first | decide | omega) | exact st.c8 (by first | decide | omega))) rfl rfl rfl ?_
  -- R1.5 11 := heap.go:21 load
  refine HL.v (fun w st => by exact r_loadL (vs := [_, _]) ty_agg67 rfl ⟨(by first | assumption | exact st.c0 (by first | decide | omega) | exact st.c1 (by first | decide | omega) | exact st.c2 (by first | decide | omega) | exact st.c3 (by first | decide | omega) | exact st.c4 (by first | decide | omega) | exact st.c5 (by first | decide | omega) | exact st.c6 (by first | decide | omega) | exact st.c7 (by first | decide | omega) | exact st.c8 (by first | decide | omega)), (by first | assumption | exact st.c0 (by first | decide | omega) | exact st.c1 (by first | decide | omega) | exact st.c2 (by first | decide | omega) | exact st.c3 (by first | decide | omega) | exact st.c4 (by first | decide | omega) | exact st.c5 (by first | decide | omega) | exact st.c6 (by first | decide | omega) | exact st.c7 (by first | decide | omega) | exact st.c8 (by first | decide | omega)), trivial⟩) rfl rfl rfl ?_
  refine HL.pure hKq ?_
  -- R1.0 6 := heap.go:21 move
  refine HL.v (fun w _ => by first | exact r_move (v := .pointer _) rfl | exact r_move rfl) rfl rfl rfl ?_
  refine HL.fin hKq2 ?_
  refine TL.at ?_
  -- R1.6 12 := heap.go:21 buildSlice
  first | refine WL.mkslice (m := 2) (vs := [.int _ _, .int _ _]) st ty_sl78 ty_zero67 rfl rfl rfl rfl rfl rfl ?_ | refine WL.mkslice (m := 2) (vs := [_, _]) st ty_sl78 ty_zero67 rfl rfl rfl rfl rfl rfl ?_ | refine WL.mkslice st ty_sl78 ty_zero67 rfl rfl rfl rfl rfl rfl ?_
  intro b12 w st
  refine TL.nxt (by first | exact st | exact st.drop | exact st.drop1 | exact st.drop2 | exact st.drop3 | exact st.drop4 | exact st.drop.drop | exact st.drop.drop1 | exact st.drop.drop2 | exact st.drop.drop3 | exact st.drop.drop4 | exact st.drop.drop.drop) ?_
  refine TL.at ?_
  -- R1.7 13 := heap.go:21 call
  refine WL.appendR (m := 1) st.front3 ty_sl78 rfl rfl (by omega) (by omega) (fun j hj => st.c0 (by omega)) (fun j hj => ?_) rfl rfl rfl ?_
  · match j, hj with
    | 0, _ => rfl
    | 1, _ => rfl
  intro w st
  refine TL.nxt' rfl ?_
  refine TL.at ?_
  -- R1.8 14 := heap.go:21 nilCheck
  refine WL.v (by exact r_nilCheck rfl) rfl rfl rfl ?_
  refine TL.nxt' rfl ?_
  refine TL.at ?_
  -- R1.9 15 := heap.go:21 fieldAddr
  refine WL.v (by exact r_field ty_fld80_0 rfl) rfl rfl rfl ?_
  refine TL.nxt' rfl ?_
  refine TL.at ?_
  -- R1.10 None := heap.go:21 store
  first | refine WL.store (v := .slice _ _ _) st ty_one78 rfl rfl rfl (by first | decide | omega) rfl rfl ?_ | refine WL.store (v := _) st ty_one78 rfl rfl rfl (by first | decide | omega) rfl rfl ?_ | refine WL.store (v := .slice _ _ _) st.front1 ty_one78 rfl rfl rfl (by first | decide | omega) rfl rfl ?_ | refine WL.store (v := _) st.front1 ty_one78 rfl rfl rfl (by first | decide | omega) rfl rfl ?_ | refine WL.store (v := .slice _ _ _) st.front2 ty_one78 rfl rfl rfl (by first | decide | omega) rfl rfl ?_ | refine WL.store (v := _) st.front2 ty_one78 rfl rfl rfl (by first | decide | omega) rfl rfl ?_ | refine WL.store (v := .slice _ _ _) st.front3 ty_one78 rfl rfl rfl (by first | decide | omega) rfl rfl ?_ | refine WL.store (v := _) st.front3 ty_one78 rfl rfl rfl (by first | decide | omega) rfl rfl ?_ | refine WL.store (v := .slice _ _ _) st.front4 ty_one78 rfl rfl rfl (by first | decide | omega) rfl rfl ?_ | refine WL.store (v := _) st.front4 ty_one78 rfl rfl rfl (by first | decide | omega) rfl rfl ?_ | refine WL.store (v := .slice _ _ _) st.front5 ty_one78 rfl rfl rfl (by first | decide | omega) rfl rfl ?_ | refine WL.store (v := _) st.front5 ty_one78 rfl rfl rfl (by first | decide | omega) rfl rfl ?_ | refine WL.store (v := .slice _ _ _) st.front6 ty_one78 rfl rfl rfl (by first | decide | omega) rfl rfl ?_ | refine WL.store (v := _) st.front6 ty_one78 rfl rfl rfl (by first | decide | omega) rfl rfl ?_ | refine WL.store (v := .slice _ _ _) st.front7 ty_one78 rfl rfl rfl (by first | decide | omega) rfl rfl ?_ | refine WL.store (v := _) st.front7 ty_one78 rfl rfl rfl (by first | decide | omega) rfl rfl ?_ | refine WL.store (v := .slice _ _ _) st.front8 ty_one78 rfl rfl rfl (by first | decide | omega) rfl rfl ?_ | refine WL.store (v := _) st.front8 ty_one78 rfl rfl rfl (by first | decide | omega) rfl rfl ?_
  intro w st
  refine TL.nxt' rfl ?_
  refine TL.wl ?_
  refine WL.fin hK348 (fun _ _ h => h) ?_
  refine WC.seq fun K349 hK349 => ?_
  -- region 2
  have st := st_heap st.drop2.drop2
  refine WC.region ?_
  -- R2.0 16 := heap.go:22 move
  refine WL.v (by first | exact r_move (v := .pointer _) rfl | exact r_move rfl) rfl rfl rfl ?_
  -- R2.1 17 := heap.go:22 nilCheck
  refine WL.v (by exact r_nilCheck rfl) rfl rfl rfl ?_
  -- R2.2 18 := heap.go:22 fieldAddr
  refine WL.v (by exact r_field ty_fld80_0 rfl) rfl rfl rfl ?_
  -- R2.3 19 := heap.go:22 load
  refine WL.v (by exact r_load1 ty_one78 rfl (by first | assumption | exact st.c0 (by first | decide | omega) | exact st.c1 (by first | decide | omega) | exact st.c2 (by first | decide | omega) | exact st.c3 (by first | decide | omega) | exact st.c4 (by first | decide | omega) | exact st.c5 (by first | decide | omega) | exact st.c6 (by first | decide | omega) | exact st.c7 (by first | decide | omega) | exact st.c8 (by first | decide | omega))) rfl rfl rfl ?_
  -- R2.4 20 := heap.go:22 call
  refine WL.v (by exact r_len ty_usl78 rfl) rfl rfl rfl ?_
  -- R2.5 21 := heap.go:22 binOp
  refine WL.v (by exact r_sub (r := (n : Int)) rfl rfl (by rw [wi64 (by omega) (by omega)]; omega)) rfl rfl rfl ?_
  -- R2.6 4 := heap.go:22 assign
  refine WL.v (by first | exact r_assign (v := .int _ _) rfl | exact r_assign rfl) rfl rfl rfl ?_
  refine WL.fin hK349 (fun _ _ h => h) ?_
  refine WC.block ?_
  refine WC.loop (ι := Nat × (Nat → Value) × (Nat → Nat × Nat)) (fun z => [(0, .pointer (some ⟨hb, 0, none⟩)), (4, .int .i64 (z.1 : Nat))])
    (fun z w' => St w0 M ((hb, Row 80 2 (heapR ib (n + 1) q b8)) :: (ib, Row 67 (q * 2) z.2.1) :: L) w' ∧ ItR z.2.1 (n + 1) z.2.2 ∧ Up (fun c : Nat × Nat => D c.1 c.2) z.2.2 (n + 1) z.1 ∧
      ((List.range (n + 1)).map z.2.2).Perm (c :: (List.range n).map it)) (fun z => z.1) (n, _, (fun k => if k = n then c else it k)) ⟨st, hit1, Up.start hhp (fun k hk => by show (if k = n then c else it k) = it k; rw [if_neg (by omega)]), ?_⟩ ?_ ?_
  · rw [List.range_succ, List.map_append]
    refine List.perm_append_comm.trans ?_
    simp only [List.map_cons, List.map_nil, if_pos rfl, List.singleton_append]
    refine List.Perm.cons _ (List.Perm.of_eq (List.map_congr_left fun k hk => ?_))
    show (if k = n then c else it k) = it k
    rw [if_neg (by have := List.mem_range.1 hk; omega)]
  · skip
    repeat (first | exact sub_nil _ | refine sub_cons rfl rfl ?_)
  clear hit1 hit
  rintro ⟨i, f, jt⟩ w ⟨st, hit, hup, hperm⟩ K1 hK1
  simp only at st hit hup hperm hK1 ⊢
  have hin := hup.lt
  have hokj : ∀ k, k < n + 1 → (jt k).1 < q ∧ (jt k).2 < dl (jt k).1 := fun k hk => by
    have : jt k ∈ c :: (List.range n).map it := hperm.mem_iff.1 (List.mem_map.2 ⟨k, List.mem_range.2 hk, rfl⟩)
    rcases List.mem_cons.1 this with h | h
    · rw [h]; exact hc
    · obtain ⟨j, hj, e⟩ := List.mem_map.1 h
      rw [← e]; exact hok j (List.mem_range.1 hj)
  by_cases h0 : 0 < i
  · skip
    by_cases hlt : D (jt i).1 (jt i).2 < D (jt ((i - 1) / 2)).1 (jt ((i - 1) / 2)).2
    · skip
      refine WC.seq fun K350 hK350 => ?_
      refine WC.seq fun K351 hK351 => ?_
      -- region 3
      refine WC.region ?_
      -- R3.0 22 := heap.go:23 move
      refine WL.v (by first | exact r_move (v := .int _ _) rfl | exact r_move rfl) rfl rfl rfl ?_
      -- R3.1 23 := heap.go:23 binOp
      refine WL.v (by first | exact r_gtr rfl rfl (decide_eq_true (by omega)) | exact r_gtr rfl rfl (decide_eq_false (by omega)) | exact r_gtr rfl rfl rfl) rfl rfl rfl ?_
      refine WL.fin hK351 (fun _ _ h => h) ?_
      refine WC.condT rfl rfl ?_
      refine WC.skipF hK350 (fun _ _ h => h) ?_
      refine WC.block ?_
      refine WC.seq fun K352 hK352 => ?_
      -- region 4
      refine WC.region ?_
      -- R4.0 24 := heap.go:24 move
      refine WL.v (by first | exact r_move (v := .int _ _) rfl | exact r_move rfl) rfl rfl rfl ?_
      -- R4.1 25 := heap.go:24 binOp
      refine WL.v (by exact r_sub (r := ((i - 1 : Nat) : Int)) rfl rfl (by rw [wi64 (by omega) (by omega)]; omega)) rfl rfl rfl ?_
      -- R4.2 26 := heap.go:24 binOp
      refine WL.v (by exact r_quo (r := (((i - 1) / 2 : Nat) : Int)) rfl rfl (by omega) (by rw [show ((i - 1 : Nat) : Int).tdiv 2 = (((i - 1) / 2 : Nat) : Int) from rfl, wi64 (by omega) (by omega)])) rfl rfl rfl ?_
      -- R4.3 5 := heap.go:24 assign
      refine WL.v (by first | exact r_assign (v := .int _ _) rfl | exact r_assign rfl) rfl rfl rfl ?_
      refine WL.fin hK352 (fun _ _ h => h) ?_
      refine WC.seq fun K353 hK353 => ?_
      refine WC.seq fun K354 hK354 => ?_
      -- region 5 (draws)
      refine WC.quietS st ty_mixed (by kernel_rfl) fun Kq hKq => ?_
      -- R5.0 27 := heap.go:25 move
      refine QL.v (fun w st => by first | exact r_move (v := .pointer _) rfl | exact r_move rfl) rfl rfl rfl ?_
      -- R5.1 28 := heap.go:25 nilCheck
      refine QL.v (fun w st => by exact r_nilCheck rfl) rfl rfl rfl ?_
      -- R5.2 29 := heap.go:25 fieldAddr
      refine QL.v (fun w st => by exact r_field ty_fld80_1 rfl) rfl rfl rfl ?_
      -- R5.3 30 := heap.go:25 load
      refine QL.v (fun w st => by exact r_load1 ty_one71 rfl (by first | assumption | exact st.c0 (by first | decide | omega) | exact st.c1 (by first | decide | omega) | exact st.c2 (by first | decide | omega) | exact st.c3 (by first | decide | omega) | exact st.c4 (by first | decide | omega) | exact st.c5 (by first | decide | omega) | exact st.c6 (by first | decide | omega) | exact st.c7 (by first | decide | omega) | exact st.c8 (by first | decide | omega))) rfl rfl rfl ?_
      -- R5.4 31 := heap.go:25 move
      refine QL.v (fun w st => by first | exact r_move (v := .pointer _) rfl | exact r_move rfl) rfl rfl rfl ?_
      -- R5.5 32 := heap.go:25 nilCheck
      refine QL.v (fun w st => by exact r_nilCheck rfl) rfl rfl rfl ?_
      -- R5.6 33 := heap.go:25 fieldAddr
      refine QL.v (fun w st => by exact r_field ty_fld80_0 rfl) rfl rfl rfl ?_
      -- R5.7 34 := heap.go:25 load
      refine QL.v (fun w st => by exact r_load1 ty_one78 rfl (by first | assumption | exact st.c0 (by first | decide | omega) | exact st.c1 (by first | decide | omega) | exact st.c2 (by first | decide | omega) | exact st.c3 (by first | decide | omega) | exact st.c4 (by first | decide | omega) | exact st.c5 (by first | decide | omega) | exact st.c6 (by first | decide | omega) | exact st.c7 (by first | decide | omega) | exact st.c8 (by first | decide | omega))) rfl rfl rfl ?_
      -- R5.8 35 := heap.go:25 move
      refine QL.v (fun w st => by first | exact r_move (v := .int _ _) rfl | exact r_move rfl) rfl rfl rfl ?_
      -- R5.9 36 := heap.go:25 indexAddr
      refine QL.v (fun w st => by exact r_indexS ty_sl78 rfl rfl rfl (by omega)) rfl rfl rfl ?_
      -- R5.10 37 := heap.go:25 load
      refine QL.v (fun w st => by exact r_loadL (vs := [_, _]) ty_agg67 rfl ⟨((st.c1 (by omega)).trans (congrArg some (hit i (by omega)).1)), ((st.c1 (by omega)).trans (congrArg some (hit i (by omega)).2)), trivial⟩) rfl rfl rfl ?_
      -- R5.11 38 := heap.go:25 move
      refine QL.v (fun w st => by first | exact r_move (v := .pointer _) rfl | exact r_move rfl) rfl rfl rfl ?_
      -- R5.12 39 := heap.go:25 nilCheck
      refine QL.v (fun w st => by exact r_nilCheck rfl) rfl rfl rfl ?_
      -- R5.13 40 := heap.go:25 fieldAddr
      refine QL.v (fun w st => by exact r_field ty_fld80_0 rfl) rfl rfl rfl ?_
      -- R5.14 41 := heap.go:25 load
      refine QL.v (fun w st => by exact r_load1 ty_one78 rfl (by first | assumption | exact st.c0 (by first | decide | omega) | exact st.c1 (by first | decide | omega) | exact st.c2 (by first | decide | omega) | exact st.c3 (by first | decide | omega) | exact st.c4 (by first | decide | omega) | exact st.c5 (by first | decide | omega) | exact st.c6 (by first | decide | omega) | exact st.c7 (by first | decide | omega) | exact st.c8 (by first | decide | omega))) rfl rfl rfl ?_
      -- R5.15 42 := heap.go:25 move
      refine QL.v (fun w st => by first | exact r_move (v := .int _ _) rfl | exact r_move rfl) rfl rfl rfl ?_
      -- R5.16 43 := heap.go:25 indexAddr
      refine QL.v (fun w st => by exact r_indexS (j := (i - 1) / 2) ty_sl78 rfl rfl (by omega) (by omega)) rfl rfl rfl ?_
      -- R5.17 44 := heap.go:25 load
      refine QL.v (fun w st => by exact r_loadL (vs := [_, _]) ty_agg67 rfl ⟨((st.c1 (by omega)).trans (congrArg some (hit ((i - 1) / 2) (by omega)).1)), ((st.c1 (by omega)).trans (congrArg some (hit ((i - 1) / 2) (by omega)).2)), trivial⟩) rfl rfl rfl ?_
      -- R5.18 45 := heap.go:25 call
      refine QL.call (val := .bool true) (fun w st => r_callv ty_call13 rfl rfl) rfl rfl rfl (fun w st => less_true (hG.more [_, _]) (hokj i (by omega)) (hokj _ (by omega)) true (decide_eq_true hlt) st) ?_
      -- R5.19 46 := heap.go:25 unOp
      refine QL.v (fun w st => by first | exact r_notT rfl | exact r_notF rfl | exact r_not rfl) rfl rfl rfl ?_
      refine QL.wl hKq fun w st => ?_
      refine WL.fin hK354 (fun _ _ h => h) ?_
      refine WC.condF rfl rfl ?_
      refine WC.skipF hK353 (fun _ _ h => h) ?_
      refine WC.seq fun K355 hK355 => ?_
      -- region 6 (draws)
      refine WC.heldS2 [25, 26, 27] [0, 1, 2, 3, 5, 6, 7, 8, 10, 11, 12, 13, 14, 15, 16, 17, 18, 19, 20, 21, 22, 23] [4, 9, 24] [25, 26, 27] st (st) ty_mixed (by kernel_rfl) fun w st Kq Kq2 hKq hKq2 => ?_
      -- R6.0 47 := heap.go:28 move
      refine HL.v (fun w st => by first | exact r_move (v := .pointer _) rfl | exact r_move rfl) rfl rfl rfl ?_
      -- R6.1 48 := heap.go:28 nilCheck
      refine HL.v (fun w st => by exact r_nilCheck rfl) rfl rfl rfl ?_
      -- R6.2 49 := heap.go:28 fieldAddr
      refine HL.v (fun w st => by exact r_field ty_fld80_0 rfl) rfl rfl rfl ?_
      -- R6.3 50 := heap.go:28 load
      refine HL.v (fun w st => by exact r_load1 ty_one78 rfl (by first | assumption | exact st.c0 (by first | decide | omega) | exact st.c1 (by first | decide | omega) | exact st.c2 (by first | decide | omega) | exact st.c3 (by first | decide | omega) | exact st.c4 (by first | decide | omega) | exact st.c5 (by first | decide | omega) | exact st.c6 (by first | decide | omega) | exact st.c7 (by first | decide | omega) | exact st.c8 (by first | decide | omega))) rfl rfl rfl ?_
      -- R6.5 52 := heap.go:28 move
      refine HL.v (fun w st => by first | exact r_move (v := .pointer _) rfl | exact r_move rfl) rfl rfl rfl ?_
      -- R6.6 53 := heap.go:28 nilCheck
      refine HL.v (fun w st => by exact r_nilCheck rfl) rfl rfl rfl ?_
      -- R6.7 54 := heap.go:28 fieldAddr
      refine HL.v (fun w st => by exact r_field ty_fld80_0 rfl) rfl rfl rfl ?_
      -- R6.8 55 := heap.go:28 load
      refine HL.v (fun w st => by exact r_load1 ty_one78 rfl (by first | assumption | exact st.c0 (by first | decide | omega) | exact st.c1 (by first | decide | omega) | exact st.c2 (by first | decide | omega) | exact st.c3 (by first | decide | omega) | exact st.c4 (by first | decide | omega) | exact st.c5 (by first | decide | omega) | exact st.c6 (by first | decide | omega) | exact st.c7 (by first | decide | omega) | exact st.c8 (by first | decide | omega))) rfl rfl rfl ?_
      -- R6.10 57 := heap.go:28 move
      refine HL.v (fun w st => by first | exact r_move (v := .pointer _) rfl | exact r_move rfl) rfl rfl rfl ?_
      -- R6.11 58 := heap.go:28 nilCheck
      refine HL.v (fun w st => by exact r_nilCheck rfl) rfl rfl rfl ?_
      -- R6.12 59 := heap.go:28 fieldAddr
      refine HL.v (fun w st => by exact r_field ty_fld80_0 rfl) rfl rfl rfl ?_
      -- R6.13 60 := heap.go:28 load
      refine HL.v (fun w st => by exact r_load1 ty_one78 rfl (by first | assumption | exact st.c0 (by first | decide | omega) | exact st.c1 (by first | decide | omega) | exact st.c2 (by first | decide | omega) | exact st.c3 (by first | decide | omega) | exact st.c4 (by first | decide | omega) | exact st.c5 (by first | decide | omega) | exact st.c6 (by first | decide | omega) | exact st.c7 (by first | decide | omega) | exact st.c8 (by first | decide | omega))) rfl rfl rfl ?_
      -- R6.14 61 := heap.go:28 move
      refine HL.v (fun w st => by first | exact r_move (v := .int _ _) rfl | exact r_move rfl) rfl rfl rfl ?_
      -- R6.15 62 := heap.go:28 indexAddr
      refine HL.v (fun w st => by exact r_indexS (j := (i - 1) / 2) ty_sl78 rfl rfl (by omega) (by omega)) rfl rfl rfl ?_
      -- R6.16 63 := heap.go:28 load
      refine HL.v (fun w st => by exact r_loadL (vs := [_, _]) ty_agg67 rfl ⟨((st.c1 (by omega)).trans (congrArg some (hit ((i - 1) / 2) (by omega)).1)), ((st.c1 (by omega)).trans (congrArg some (hit ((i - 1) / 2) (by omega)).2)), trivial⟩) rfl rfl rfl ?_
      -- R6.17 64 := heap.go:28 move
      refine HL.v (fun w st => by first | exact r_move (v := .pointer _) rfl | exact r_move rfl) rfl rfl rfl ?_
      -- R6.18 65 := heap.go:28 nilCheck
      refine HL.v (fun w st => by exact r_nilCheck rfl) rfl rfl rfl ?_
      -- R6.19 66 := heap.go:28 fieldAddr
      refine HL.v (fun w st => by exact r_field ty_fld80_0 rfl) rfl rfl rfl ?_
      -- R6.20 67 := heap.go:28 load
      refine HL.v (fun w st => by exact r_load1 ty_one78 rfl (by first | assumption | exact st.c0 (by first | decide | omega) | exact st.c1 (by first | decide | omega) | exact st.c2 (by first | decide | omega) | exact st.c3 (by first | decide | omega) | exact st.c4 (by first | decide | omega) | exact st.c5 (by first | decide | omega) | exact st.c6 (by first | decide | omega) | exact st.c7 (by first | decide | omega) | exact st.c8 (by first | decide | omega))) rfl rfl rfl ?_
      -- R6.21 68 := heap.go:28 move
      refine HL.v (fun w st => by first | exact r_move (v := .int _ _) rfl | exact r_move rfl) rfl rfl rfl ?_
      -- R6.22 69 := heap.go:28 indexAddr
      refine HL.v (fun w st => by exact r_indexS ty_sl78 rfl rfl rfl (by omega)) rfl rfl rfl ?_
      -- R6.23 70 := heap.go:28 load
      refine HL.v (fun w st => by exact r_loadL (vs := [_, _]) ty_agg67 rfl ⟨((st.c1 (by omega)).trans (congrArg some (hit i (by omega)).1)), ((st.c1 (by omega)).trans (congrArg some (hit i (by omega)).2)), trivial⟩) rfl rfl rfl ?_
      refine HL.pure hKq ?_
      -- R6.4 51 := heap.go:28 move
      refine HL.v (fun w _ => by first | exact r_move (v := .int _ _) rfl | exact r_move rfl) rfl rfl rfl ?_
      -- R6.9 56 := heap.go:28 move
      refine HL.v (fun w _ => by first | exact r_move (v := .int _ _) rfl | exact r_move rfl) rfl rfl rfl ?_
      -- R6.24 71 := heap.go:28 indexAddr
      refine HL.v (fun w _ => by exact r_indexS ty_sl78 rfl rfl rfl (by omega)) rfl rfl rfl ?_
      refine HL.fin hKq2 ?_
      refine TL.at ?_
      -- R6.25 None := heap.go:28 store
      first | refine WL.storeW (vs := [_, _]) st ty_agg67 rfl rfl rfl rfl rfl rfl ?_ | refine WL.storeL (vs := [_, _]) st ty_agg67 rfl rfl rfl rfl (by first | decide | omega) rfl rfl ?_ | refine WL.storeW (vs := [_, _]) st.front1 ty_agg67 rfl rfl rfl rfl rfl rfl ?_ | refine WL.storeL (vs := [_, _]) st.front1 ty_agg67 rfl rfl rfl rfl (by first | decide | omega) rfl rfl ?_ | refine WL.storeW (vs := [_, _]) st.front2 ty_agg67 rfl rfl rfl rfl rfl rfl ?_ | refine WL.storeL (vs := [_, _]) st.front2 ty_agg67 rfl rfl rfl rfl (by first | decide | omega) rfl rfl ?_ | refine WL.storeW (vs := [_, _]) st.front3 ty_agg67 rfl rfl rfl rfl rfl rfl ?_ | refine WL.storeL (vs := [_, _]) st.front3 ty_agg67 rfl rfl rfl rfl (by first | decide | omega) rfl rfl ?_ | refine WL.storeW (vs := [_, _]) st.front4 ty_agg67 rfl rfl rfl rfl rfl rfl ?_ | refine WL.storeL (vs := [_, _]) st.front4 ty_agg67 rfl rfl rfl rfl (by first | decide | omega) rfl rfl ?_ | refine WL.storeW (vs := [_, _]) st.front5 ty_agg67 rfl rfl rfl rfl rfl rfl ?_ | refine WL.storeL (vs := [_, _]) st.front5 ty_agg67 rfl rfl rfl rfl (by first | decide | omega) rfl rfl ?_ | refine WL.storeW (vs := [_, _]) st.front6 ty_agg67 rfl rfl rfl rfl rfl rfl ?_ | refine WL.storeL (vs := [_, _]) st.front6 ty_agg67 rfl rfl rfl rfl (by first | decide | omega) rfl rfl ?_ | refine WL.storeW (vs := [_, _]) st.front7 ty_agg67 rfl rfl rfl rfl rfl rfl ?_ | refine WL.storeL (vs := [_, _]) st.front7 ty_agg67 rfl rfl rfl rfl (by first | decide | omega) rfl rfl ?_ | refine WL.storeW (vs := [_, _]) st.front8 ty_agg67 rfl rfl rfl rfl rfl rfl ?_ | refine WL.storeL (vs := [_, _]) st.front8 ty_agg67 rfl rfl rfl rfl (by first | decide | omega) rfl rfl ?_
      intro w st
      refine TL.nxt' rfl ?_
      refine TL.at ?_
      -- R6.26 72 := heap.go:28 indexAddr
      refine WL.v (by exact r_indexS (j := (i - 1) / 2) ty_sl78 rfl rfl (by omega) (by omega)) rfl rfl rfl ?_
      refine TL.nxt' rfl ?_
      refine TL.at ?_
      -- R6.27 None := heap.go:28 store
      first | refine WL.storeW (vs := [_, _]) st ty_agg67 rfl rfl rfl rfl rfl rfl ?_ | refine WL.storeL (vs := [_, _]) st ty_agg67 rfl rfl rfl rfl (by first | decide | omega) rfl rfl ?_ | refine WL.storeW (vs := [_, _]) st.front1 ty_agg67 rfl rfl rfl rfl rfl rfl ?_ | refine WL.storeL (vs := [_, _]) st.front1 ty_agg67 rfl rfl rfl rfl (by first | decide | omega) rfl rfl ?_ | refine WL.storeW (vs := [_, _]) st.front2 ty_agg67 rfl rfl rfl rfl rfl rfl ?_ | refine WL.storeL (vs := [_, _]) st.front2 ty_agg67 rfl rfl rfl rfl (by first | decide | omega) rfl rfl ?_ | refine WL.storeW (vs := [_, _]) st.front3 ty_agg67 rfl rfl rfl rfl rfl rfl ?_ | refine WL.storeL (vs := [_, _]) st.front3 ty_agg67 rfl rfl rfl rfl (by first | decide | omega) rfl rfl ?_ | refine WL.storeW (vs := [_, _]) st.front4 ty_agg67 rfl rfl rfl rfl rfl rfl ?_ | refine WL.storeL (vs := [_, _]) st.front4 ty_agg67 rfl rfl rfl rfl (by first | decide | omega) rfl rfl ?_ | refine WL.storeW (vs := [_, _]) st.front5 ty_agg67 rfl rfl rfl rfl rfl rfl ?_ | refine WL.storeL (vs := [_, _]) st.front5 ty_agg67 rfl rfl rfl rfl (by first | decide | omega) rfl rfl ?_ | refine WL.storeW (vs := [_, _]) st.front6 ty_agg67 rfl rfl rfl rfl rfl rfl ?_ | refine WL.storeL (vs := [_, _]) st.front6 ty_agg67 rfl rfl rfl rfl (by first | decide | omega) rfl rfl ?_ | refine WL.storeW (vs := [_, _]) st.front7 ty_agg67 rfl rfl rfl rfl rfl rfl ?_ | refine WL.storeL (vs := [_, _]) st.front7 ty_agg67 rfl rfl rfl rfl (by first | decide | omega) rfl rfl ?_ | refine WL.storeW (vs := [_, _]) st.front8 ty_agg67 rfl rfl rfl rfl rfl rfl ?_ | refine WL.storeL (vs := [_, _]) st.front8 ty_agg67 rfl rfl rfl rfl (by first | decide | omega) rfl rfl ?_
      intro w st
      refine TL.nxt' rfl ?_
      refine TL.wl ?_
      refine WL.fin hK355 (fun _ _ h => h) ?_
      -- region 7
      refine WC.region ?_
      -- R7.0 73 := heap.go:29 move
      refine WL.v (by first | exact r_move (v := .int _ _) rfl | exact r_move rfl) rfl rfl rfl ?_
      -- R7.1 4 := heap.go:29 assign
      refine WL.v (by first | exact r_assign (v := .int _ _) rfl | exact r_assign rfl) rfl rfl rfl ?_
      refine WL.next hK1 (fun _ _ h => h) ((i - 1) / 2, _, swp jt i ((i - 1) / 2)) ⟨st.front1, ((hit.set (jt ((i - 1) / 2))).set (jt i)).congr (fun k hk => ?_), hup.step h0 hlt, (swp_perm jt (by omega) (by omega)).trans hperm⟩ (by show (i - 1) / 2 < i; omega) (by repeat (first | exact sub_nil _ | refine sub_cons rfl rfl ?_))
      show (if k = (i - 1) / 2 then jt i else if k = i then jt ((i - 1) / 2) else jt k) = swp jt i ((i - 1) / 2) k
      unfold swp
      by_cases hk1 : k = (i - 1) / 2
      · rw [if_pos hk1, if_neg (by omega), if_pos hk1]
      · rw [if_neg hk1]
        by_cases hk2 : k = i
        · rw [if_pos hk2, if_pos hk2]
        · rw [if_neg hk2, if_neg hk2, if_neg hk1]
    · skip
      refine WC.seq fun K356 hK356 => ?_
      refine WC.seq fun K357 hK357 => ?_
      -- region 3
      refine WC.region ?_
      -- R3.0 22 := heap.go:23 move
      refine WL.v (by first | exact r_move (v := .int _ _) rfl | exact r_move rfl) rfl rfl rfl ?_
      -- R3.1 23 := heap.go:23 binOp
      refine WL.v (by first | exact r_gtr rfl rfl (decide_eq_true (by omega)) | exact r_gtr rfl rfl (decide_eq_false (by omega)) | exact r_gtr rfl rfl rfl) rfl rfl rfl ?_
      refine WL.fin hK357 (fun _ _ h => h) ?_
      refine WC.condT rfl rfl ?_
      refine WC.skipF hK356 (fun _ _ h => h) ?_
      refine WC.block ?_
      refine WC.seq fun K358 hK358 => ?_
      -- region 4
      refine WC.region ?_
      -- R4.0 24 := heap.go:24 move
      refine WL.v (by first | exact r_move (v := .int _ _) rfl | exact r_move rfl) rfl rfl rfl ?_
      -- R4.1 25 := heap.go:24 binOp
      refine WL.v (by exact r_sub (r := ((i - 1 : Nat) : Int)) rfl rfl (by rw [wi64 (by omega) (by omega)]; omega)) rfl rfl rfl ?_
      -- R4.2 26 := heap.go:24 binOp
      refine WL.v (by exact r_quo (r := (((i - 1) / 2 : Nat) : Int)) rfl rfl (by omega) (by rw [show ((i - 1 : Nat) : Int).tdiv 2 = (((i - 1) / 2 : Nat) : Int) from rfl, wi64 (by omega) (by omega)])) rfl rfl rfl ?_
      -- R4.3 5 := heap.go:24 assign
      refine WL.v (by first | exact r_assign (v := .int _ _) rfl | exact r_assign rfl) rfl rfl rfl ?_
      refine WL.fin hK358 (fun _ _ h => h) ?_
      refine WC.seq fun K359 hK359 => ?_
      refine WC.seq fun K360 hK360 => ?_
      -- region 5 (draws)
      refine WC.quietS st ty_mixed (by kernel_rfl) fun Kq hKq => ?_
      -- R5.0 27 := heap.go:25 move
      refine QL.v (fun w st => by first | exact r_move (v := .pointer _) rfl | exact r_move rfl) rfl rfl rfl ?_
      -- R5.1 28 := heap.go:25 nilCheck
      refine QL.v (fun w st => by exact r_nilCheck rfl) rfl rfl rfl ?_
      -- R5.2 29 := heap.go:25 fieldAddr
      refine QL.v (fun w st => by exact r_field ty_fld80_1 rfl) rfl rfl rfl ?_
      -- R5.3 30 := heap.go:25 load
      refine QL.v (fun w st => by exact r_load1 ty_one71 rfl (by first | assumption | exact st.c0 (by first | decide | omega) | exact st.c1 (by first | decide | omega) | exact st.c2 (by first | decide | omega) | exact st.c3 (by first | decide | omega) | exact st.c4 (by first | decide | omega) | exact st.c5 (by first | decide | omega) | exact st.c6 (by first | decide | omega) | exact st.c7 (by first | decide | omega) | exact st.c8 (by first | decide | omega))) rfl rfl rfl ?_
      -- R5.4 31 := heap.go:25 move
      refine QL.v (fun w st => by first | exact r_move (v := .pointer _) rfl | exact r_move rfl) rfl rfl rfl ?_
      -- R5.5 32 := heap.go:25 nilCheck
      refine QL.v (fun w st => by exact r_nilCheck rfl) rfl rfl rfl ?_
      -- R5.6 33 := heap.go:25 fieldAddr
      refine QL.v (fun w st => by exact r_field ty_fld80_0 rfl) rfl rfl rfl ?_
      -- R5.7 34 := heap.go:25 load
      refine QL.v (fun w st => by exact r_load1 ty_one78 rfl (by first | assumption | exact st.c0 (by first | decide | omega) | exact st.c1 (by first | decide | omega) | exact st.c2 (by first | decide | omega) | exact st.c3 (by first | decide | omega) | exact st.c4 (by first | decide | omega) | exact st.c5 (by first | decide | omega) | exact st.c6 (by first | decide | omega) | exact st.c7 (by first | decide | omega) | exact st.c8 (by first | decide | omega))) rfl rfl rfl ?_
      -- R5.8 35 := heap.go:25 move
      refine QL.v (fun w st => by first | exact r_move (v := .int _ _) rfl | exact r_move rfl) rfl rfl rfl ?_
      -- R5.9 36 := heap.go:25 indexAddr
      refine QL.v (fun w st => by exact r_indexS ty_sl78 rfl rfl rfl (by omega)) rfl rfl rfl ?_
      -- R5.10 37 := heap.go:25 load
      refine QL.v (fun w st => by exact r_loadL (vs := [_, _]) ty_agg67 rfl ⟨((st.c1 (by omega)).trans (congrArg some (hit i (by omega)).1)), ((st.c1 (by omega)).trans (congrArg some (hit i (by omega)).2)), trivial⟩) rfl rfl rfl ?_
      -- R5.11 38 := heap.go:25 move
      refine QL.v (fun w st => by first | exact r_move (v := .pointer _) rfl | exact r_move rfl) rfl rfl rfl ?_
      -- R5.12 39 := heap.go:25 nilCheck
      refine QL.v (fun w st => by exact r_nilCheck rfl) rfl rfl rfl ?_
      -- R5.13 40 := heap.go:25 fieldAddr
      refine QL.v (fun w st => by exact r_field ty_fld80_0 rfl) rfl rfl rfl ?_
      -- R5.14 41 := heap.go:25 load
      refine QL.v (fun w st => by exact r_load1 ty_one78 rfl (by first | assumption | exact st.c0 (by first | decide | omega) | exact st.c1 (by first | decide | omega) | exact st.c2 (by first | decide | omega) | exact st.c3 (by first | decide | omega) | exact st.c4 (by first | decide | omega) | exact st.c5 (by first | decide | omega) | exact st.c6 (by first | decide | omega) | exact st.c7 (by first | decide | omega) | exact st.c8 (by first | decide | omega))) rfl rfl rfl ?_
      -- R5.15 42 := heap.go:25 move
      refine QL.v (fun w st => by first | exact r_move (v := .int _ _) rfl | exact r_move rfl) rfl rfl rfl ?_
      -- R5.16 43 := heap.go:25 indexAddr
      refine QL.v (fun w st => by exact r_indexS (j := (i - 1) / 2) ty_sl78 rfl rfl (by omega) (by omega)) rfl rfl rfl ?_
      -- R5.17 44 := heap.go:25 load
      refine QL.v (fun w st => by exact r_loadL (vs := [_, _]) ty_agg67 rfl ⟨((st.c1 (by omega)).trans (congrArg some (hit ((i - 1) / 2) (by omega)).1)), ((st.c1 (by omega)).trans (congrArg some (hit ((i - 1) / 2) (by omega)).2)), trivial⟩) rfl rfl rfl ?_
      -- R5.18 45 := heap.go:25 call
      refine QL.call (val := .bool false) (fun w st => r_callv ty_call13 rfl rfl) rfl rfl rfl (fun w st => less_true (hG.more [_, _]) (hokj i (by omega)) (hokj _ (by omega)) false (decide_eq_false hlt) st) ?_
      -- R5.19 46 := heap.go:25 unOp
      refine QL.v (fun w st => by first | exact r_notT rfl | exact r_notF rfl | exact r_not rfl) rfl rfl rfl ?_
      refine QL.wl hKq fun w st => ?_
      refine WL.fin hK360 (fun _ _ h => h) ?_
      refine WC.condT rfl rfl ?_
      refine WC.exit0 Try.results14 (fun _ _ h => h) ?_
      exact ⟨_, rfl, f, jt, hit, hup.done (.inr (by omega)), hperm, st⟩
  · skip
    refine WC.seq fun K361 hK361 => ?_
    refine WC.seq fun K362 hK362 => ?_
    -- region 3
    refine WC.region ?_
    -- R3.0 22 := heap.go:23 move
    refine WL.v (by first | exact r_move (v := .int _ _) rfl | exact r_move rfl) rfl rfl rfl ?_
    -- R3.1 23 := heap.go:23 binOp
    refine WL.v (by first | exact r_gtr rfl rfl (decide_eq_true (by omega)) | exact r_gtr rfl rfl (decide_eq_false (by omega)) | exact r_gtr rfl rfl rfl) rfl rfl rfl ?_
    refine WL.fin hK362 (fun _ _ h => h) ?_
    refine WC.condF rfl rfl ?_
    refine WC.exit0 Try.results14 (fun _ _ h => h) ?_
    exact ⟨_, rfl, f, jt, hit, hup.done (.inl (by omega)), hperm, st⟩
end Go.Proofs.Qxb6500835a

