import Derived.Test.Qxb6500834aGreatDoorK24
set_option linter.unusedVariables false
set_option linter.unusedSimpArgs false
set_option maxRecDepth 20000
namespace Go.Proofs.Qxb6500834aGreatDoor
open Go.RowKit Go.E1 Go.Kern
variable {w0 : World} {L L' l I J K K' X Y : List HI} {w : World} {s : KS} {B : KA} {t r N : Nat}
theorem st_one {it : HI} (st : S0 w0 Y w) (h : it ∈ Y) : S0 w0 [it] w := st.sublist (List.singleton_sublist.2 h)

theorem acquire0_ok {t r u : Int} (hD : gD w0) (hB : KB N s) (hN : N + 20 ≤ 1000000) (hu : -1 ≤ u) (hu2 : u ≤ 16) (hnow : s.now < 9223372036854775808) (harm : s.armed < 1000000) (st : KH w0 B s l w) :
    Calls Tryz.prog 79 #[.pointer (some ⟨B.bk, 0, none⟩), .int .i64 t, .int .i64 r, .int .i64 u] w (Ret fun v w' => RK w0 B (acquireP s t r u none).1 (acquireP s t r u none).2 (-1) l v w') := by
  obtain ⟨Y, qv, XQ, tv, ov, V, st⟩ := st.view
  refine enter [.pointer (some ⟨B.bk, 0, none⟩), .int .i64 t, .int .i64 r, .int .i64 u] Tryz.func79 rfl Tryz.ntmps79 rfl ?_
  show WC _ _ _ 14 [] [(0, .pointer (some ⟨B.bk, 0, none⟩)), (1, .int .i64 t), (2, .int .i64 r), (3, .int .i64 u)] _
  refine WC.seq fun K744 hK744 => ?_
  -- region 0
  refine WC.region ?_
  -- R0.0 8 := acquire.go:9 alloc
  refine WL.alloc (m := 3) st ty_zero34 rfl rfl rfl ?_
  intro b8 w st
  refine WL.fin hK744 (fun _ _ h => h) ?_
  refine WC.seq fun K745 hK745 => ?_
  -- region 1
  refine WC.region ?_
  -- R1.0 9 := acquire.go:10 move
  refine WL.v (by first | exact r_move (v := .pointer _) rfl | exact r_move rfl) rfl rfl rfl ?_
  -- R1.1 10 := acquire.go:10 move
  refine WL.v (by first | exact r_move (v := .int _ _) rfl | exact r_move rfl) rfl rfl rfl ?_
  -- R1.2 11 := acquire.go:10 move
  refine WL.v (by first | exact r_move (v := .int _ _) rfl | exact r_move rfl) rfl rfl rfl ?_
  -- R1.3 12 := acquire.go:10 move
  refine WL.v (by first | exact r_move (v := .int _ _) rfl | exact r_move rfl) rfl rfl rfl ?_
  -- R1.4 13 := acquire.go:10 call
  have st : KH w0 B s (zR b8 :: l) w := V.back (I := [_]) st
  refine WL.call (r_call ty_call103 rfl) rfl rfl rfl (acquire_ok (ticks := 18446744073709551615) (timed := false) hD hB hN hu hu2 (by decide) hnow harm st) ?_
  rintro _ w ⟨ovr, XO, hor, rfl, st⟩
  obtain ⟨ar, cr, br, rfl, -, -, -, -⟩ := hor.form
  obtain ⟨Yr, st, backr⟩ := KH.out (st.perm (List.perm_append_comm_assoc XO [_] l))
  -- R1.5 None := acquire.go:10 store
  first | refine WL.storeW (vs := [_, _, _]) st ty_agg34 rfl rfl rfl rfl rfl rfl ?_ | refine WL.storeL (vs := [_, _, _]) st ty_agg34 rfl rfl rfl rfl (by first | decide | omega) rfl rfl ?_ | refine WL.storeW (vs := [_, _, _]) st.front1 ty_agg34 rfl rfl rfl rfl rfl rfl ?_ | refine WL.storeL (vs := [_, _, _]) st.front1 ty_agg34 rfl rfl rfl rfl (by first | decide | omega) rfl rfl ?_ | refine WL.storeW (vs := [_, _, _]) st.front2 ty_agg34 rfl rfl rfl rfl rfl rfl ?_ | refine WL.storeL (vs := [_, _, _]) st.front2 ty_agg34 rfl rfl rfl rfl (by first | decide | omega) rfl rfl ?_ | refine WL.storeW (vs := [_, _, _]) st.front3 ty_agg34 rfl rfl rfl rfl rfl rfl ?_ | refine WL.storeL (vs := [_, _, _]) st.front3 ty_agg34 rfl rfl rfl rfl (by first | decide | omega) rfl rfl ?_ | refine WL.storeW (vs := [_, _, _]) st.front4 ty_agg34 rfl rfl rfl rfl rfl rfl ?_ | refine WL.storeL (vs := [_, _, _]) st.front4 ty_agg34 rfl rfl rfl rfl (by first | decide | omega) rfl rfl ?_ | refine WL.storeW (vs := [_, _, _]) st.front5 ty_agg34 rfl rfl rfl rfl rfl rfl ?_ | refine WL.storeL (vs := [_, _, _]) st.front5 ty_agg34 rfl rfl rfl rfl (by first | decide | omega) rfl rfl ?_ | refine WL.storeW (vs := [_, _, _]) st.front6 ty_agg34 rfl rfl rfl rfl rfl rfl ?_ | refine WL.storeL (vs := [_, _, _]) st.front6 ty_agg34 rfl rfl rfl rfl (by first | decide | omega) rfl rfl ?_ | refine WL.storeW (vs := [_, _, _]) st.front7 ty_agg34 rfl rfl rfl rfl rfl rfl ?_ | refine WL.storeL (vs := [_, _, _]) st.front7 ty_agg34 rfl rfl rfl rfl (by first | decide | omega) rfl rfl ?_ | refine WL.storeW (vs := [_, _, _]) st.front8 ty_agg34 rfl rfl rfl rfl rfl rfl ?_ | refine WL.storeL (vs := [_, _, _]) st.front8 ty_agg34 rfl rfl rfl rfl (by first | decide | omega) rfl rfl ?_
  intro w st
  refine WL.fin hK745 (fun _ _ h => h) ?_
  refine WC.retC (vs := [_, _, _]) Tryz.results79 (fun _ _ h => h) rfl ty_agg34 rfl ⟨(by first | assumption | exact st.c0 (by first | decide | omega) | exact st.c1 (by first | decide | omega) | exact st.c2 (by first | decide | omega) | exact st.c3 (by first | decide | omega) | exact st.c4 (by first | decide | omega) | exact st.c5 (by first | decide | omega) | exact st.c6 (by first | decide | omega) | exact st.c7 (by first | decide | omega) | exact st.c8 (by first | decide | omega)), (by first | assumption | exact st.c0 (by first | decide | omega) | exact st.c1 (by first | decide | omega) | exact st.c2 (by first | decide | omega) | exact st.c3 (by first | decide | omega) | exact st.c4 (by first | decide | omega) | exact st.c5 (by first | decide | omega) | exact st.c6 (by first | decide | omega) | exact st.c7 (by first | decide | omega) | exact st.c8 (by first | decide | omega)), (by first | assumption | exact st.c0 (by first | decide | omega) | exact st.c1 (by first | decide | omega) | exact st.c2 (by first | decide | omega) | exact st.c3 (by first | decide | omega) | exact st.c4 (by first | decide | omega) | exact st.c5 (by first | decide | omega) | exact st.c6 (by first | decide | omega) | exact st.c7 (by first | decide | omega) | exact st.c8 (by first | decide | omega)), trivial⟩ ?_
  exact ⟨_, rfl, _, XO, hor, rfl, (backr st).drop⟩
theorem tryAcquire_ok {t r u : Int} (hD : gD w0) (hB : KB N s) (hN : N + 20 ≤ 1000000) (hu : -1 ≤ u) (hu2 : u ≤ 16) (hnow : s.now < 9223372036854775808) (harm : s.armed < 1000000) (st : KH w0 B s l w) :
    Calls Tryz.prog 80 #[.pointer (some ⟨B.bk, 0, none⟩), .int .i64 t, .int .i64 r, .int .i64 u] w (Ret fun v w' => RK w0 B (acquireP s t r u (some 0)).1 (acquireP s t r u (some 0)).2 (-1) l v w') := by
  obtain ⟨Y, qv, XQ, tv, ov, V, st⟩ := st.view
  refine enter [.pointer (some ⟨B.bk, 0, none⟩), .int .i64 t, .int .i64 r, .int .i64 u] Tryz.func80 rfl Tryz.ntmps80 rfl ?_
  show WC _ _ _ 14 [] [(0, .pointer (some ⟨B.bk, 0, none⟩)), (1, .int .i64 t), (2, .int .i64 r), (3, .int .i64 u)] _
  refine WC.seq fun K746 hK746 => ?_
  -- region 0
  refine WC.region ?_
  -- R0.0 8 := acquire.go:15 alloc
  refine WL.alloc (m := 3) st ty_zero34 rfl rfl rfl ?_
  intro b8 w st
  refine WL.fin hK746 (fun _ _ h => h) ?_
  refine WC.seq fun K747 hK747 => ?_
  -- region 1
  refine WC.region ?_
  -- R1.0 9 := acquire.go:16 move
  refine WL.v (by first | exact r_move (v := .pointer _) rfl | exact r_move rfl) rfl rfl rfl ?_
  -- R1.1 10 := acquire.go:16 move
  refine WL.v (by first | exact r_move (v := .int _ _) rfl | exact r_move rfl) rfl rfl rfl ?_
  -- R1.2 11 := acquire.go:16 move
  refine WL.v (by first | exact r_move (v := .int _ _) rfl | exact r_move rfl) rfl rfl rfl ?_
  -- R1.3 12 := acquire.go:16 move
  refine WL.v (by first | exact r_move (v := .int _ _) rfl | exact r_move rfl) rfl rfl rfl ?_
  -- R1.4 13 := acquire.go:16 call
  have st : KH w0 B s (zR b8 :: l) w := V.back (I := [_]) st
  refine WL.call (r_call ty_call103 rfl) rfl rfl rfl (acquire_ok (ticks := 0) (timed := true) hD hB hN hu hu2 (by decide) hnow harm st) ?_
  rintro _ w ⟨ovr, XO, hor, rfl, st⟩
  obtain ⟨ar, cr, br, rfl, -, -, -, -⟩ := hor.form
  obtain ⟨Yr, st, backr⟩ := KH.out (st.perm (List.perm_append_comm_assoc XO [_] l))
  -- R1.5 None := acquire.go:16 store
  first | refine WL.storeW (vs := [_, _, _]) st ty_agg34 rfl rfl rfl rfl rfl rfl ?_ | refine WL.storeL (vs := [_, _, _]) st ty_agg34 rfl rfl rfl rfl (by first | decide | omega) rfl rfl ?_ | refine WL.storeW (vs := [_, _, _]) st.front1 ty_agg34 rfl rfl rfl rfl rfl rfl ?_ | refine WL.storeL (vs := [_, _, _]) st.front1 ty_agg34 rfl rfl rfl rfl (by first | decide | omega) rfl rfl ?_ | refine WL.storeW (vs := [_, _, _]) st.front2 ty_agg34 rfl rfl rfl rfl rfl rfl ?_ | refine WL.storeL (vs := [_, _, _]) st.front2 ty_agg34 rfl rfl rfl rfl (by first | decide | omega) rfl rfl ?_ | refine WL.storeW (vs := [_, _, _]) st.front3 ty_agg34 rfl rfl rfl rfl rfl rfl ?_ | refine WL.storeL (vs := [_, _, _]) st.front3 ty_agg34 rfl rfl rfl rfl (by first | decide | omega) rfl rfl ?_ | refine WL.storeW (vs := [_, _, _]) st.front4 ty_agg34 rfl rfl rfl rfl rfl rfl ?_ | refine WL.storeL (vs := [_, _, _]) st.front4 ty_agg34 rfl rfl rfl rfl (by first | decide | omega) rfl rfl ?_ | refine WL.storeW (vs := [_, _, _]) st.front5 ty_agg34 rfl rfl rfl rfl rfl rfl ?_ | refine WL.storeL (vs := [_, _, _]) st.front5 ty_agg34 rfl rfl rfl rfl (by first | decide | omega) rfl rfl ?_ | refine WL.storeW (vs := [_, _, _]) st.front6 ty_agg34 rfl rfl rfl rfl rfl rfl ?_ | refine WL.storeL (vs := [_, _, _]) st.front6 ty_agg34 rfl rfl rfl rfl (by first | decide | omega) rfl rfl ?_ | refine WL.storeW (vs := [_, _, _]) st.front7 ty_agg34 rfl rfl rfl rfl rfl rfl ?_ | refine WL.storeL (vs := [_, _, _]) st.front7 ty_agg34 rfl rfl rfl rfl (by first | decide | omega) rfl rfl ?_ | refine WL.storeW (vs := [_, _, _]) st.front8 ty_agg34 rfl rfl rfl rfl rfl rfl ?_ | refine WL.storeL (vs := [_, _, _]) st.front8 ty_agg34 rfl rfl rfl rfl (by first | decide | omega) rfl rfl ?_
  intro w st
  refine WL.fin hK747 (fun _ _ h => h) ?_
  refine WC.retC (vs := [_, _, _]) Tryz.results80 (fun _ _ h => h) rfl ty_agg34 rfl ⟨(by first | assumption | exact st.c0 (by first | decide | omega) | exact st.c1 (by first | decide | omega) | exact st.c2 (by first | decide | omega) | exact st.c3 (by first | decide | omega) | exact st.c4 (by first | decide | omega) | exact st.c5 (by first | decide | omega) | exact st.c6 (by first | decide | omega) | exact st.c7 (by first | decide | omega) | exact st.c8 (by first | decide | omega)), (by first | assumption | exact st.c0 (by first | decide | omega) | exact st.c1 (by first | decide | omega) | exact st.c2 (by first | decide | omega) | exact st.c3 (by first | decide | omega) | exact st.c4 (by first | decide | omega) | exact st.c5 (by first | decide | omega) | exact st.c6 (by first | decide | omega) | exact st.c7 (by first | decide | omega) | exact st.c8 (by first | decide | omega)), (by first | assumption | exact st.c0 (by first | decide | omega) | exact st.c1 (by first | decide | omega) | exact st.c2 (by first | decide | omega) | exact st.c3 (by first | decide | omega) | exact st.c4 (by first | decide | omega) | exact st.c5 (by first | decide | omega) | exact st.c6 (by first | decide | omega) | exact st.c7 (by first | decide | omega) | exact st.c8 (by first | decide | omega)), trivial⟩ ?_
  exact ⟨_, rfl, _, XO, hor, rfl, (backr st).drop⟩
theorem timedAcquire_ok {t r u : Int} {k : Nat} (hD : gD w0) (hB : KB N s) (hN : N + 20 ≤ 1000000) (hu : -1 ≤ u) (hu2 : u ≤ 16) (hk : k < 18446744073709551616) (hnow : s.now < 9223372036854775808) (harm : s.armed < 1000000) (st : KH w0 B s l w) :
    Calls Tryz.prog 81 #[.pointer (some ⟨B.bk, 0, none⟩), .int .i64 t, .int .i64 r, .int .i64 u, .int .u64 (k : Nat)] w (Ret fun v w' => RK w0 B (acquireP s t r u (some k)).1 (acquireP s t r u (some k)).2 (-1) l v w') := by
  obtain ⟨Y, qv, XQ, tv, ov, V, st⟩ := st.view
  refine enter [.pointer (some ⟨B.bk, 0, none⟩), .int .i64 t, .int .i64 r, .int .i64 u, .int .u64 (k : Nat)] Tryz.func81 rfl Tryz.ntmps81 rfl ?_
  show WC _ _ _ 17 [] [(0, .pointer (some ⟨B.bk, 0, none⟩)), (1, .int .i64 t), (2, .int .i64 r), (3, .int .i64 u), (4, .int .u64 (k : Nat))] _
  refine WC.seq fun K748 hK748 => ?_
  -- region 0
  refine WC.region ?_
  -- R0.0 10 := acquire.go:21 alloc
  refine WL.alloc (m := 3) st ty_zero34 rfl rfl rfl ?_
  intro b10 w st
  refine WL.fin hK748 (fun _ _ h => h) ?_
  refine WC.seq fun K749 hK749 => ?_
  -- region 1
  refine WC.region ?_
  -- R1.0 11 := acquire.go:22 move
  refine WL.v (by first | exact r_move (v := .pointer _) rfl | exact r_move rfl) rfl rfl rfl ?_
  -- R1.1 12 := acquire.go:22 move
  refine WL.v (by first | exact r_move (v := .int _ _) rfl | exact r_move rfl) rfl rfl rfl ?_
  -- R1.2 13 := acquire.go:22 move
  refine WL.v (by first | exact r_move (v := .int _ _) rfl | exact r_move rfl) rfl rfl rfl ?_
  -- R1.3 14 := acquire.go:22 move
  refine WL.v (by first | exact r_move (v := .int _ _) rfl | exact r_move rfl) rfl rfl rfl ?_
  -- R1.4 15 := acquire.go:22 move
  refine WL.v (by first | exact r_move (v := .int _ _) rfl | exact r_move rfl) rfl rfl rfl ?_
  -- R1.5 16 := acquire.go:22 call
  have st : KH w0 B s (zR b10 :: l) w := V.back (I := [_]) st
  refine WL.call (r_call ty_call103 rfl) rfl rfl rfl (acquire_ok (ticks := k) (timed := true) hD hB hN hu hu2 hk hnow harm st) ?_
  rintro _ w ⟨ovr, XO, hor, rfl, st⟩
  obtain ⟨ar, cr, br, rfl, -, -, -, -⟩ := hor.form
  obtain ⟨Yr, st, backr⟩ := KH.out (st.perm (List.perm_append_comm_assoc XO [_] l))
  -- R1.6 None := acquire.go:22 store
  first | refine WL.storeW (vs := [_, _, _]) st ty_agg34 rfl rfl rfl rfl rfl rfl ?_ | refine WL.storeL (vs := [_, _, _]) st ty_agg34 rfl rfl rfl rfl (by first | decide | omega) rfl rfl ?_ | refine WL.storeW (vs := [_, _, _]) st.front1 ty_agg34 rfl rfl rfl rfl rfl rfl ?_ | refine WL.storeL (vs := [_, _, _]) st.front1 ty_agg34 rfl rfl rfl rfl (by first | decide | omega) rfl rfl ?_ | refine WL.storeW (vs := [_, _, _]) st.front2 ty_agg34 rfl rfl rfl rfl rfl rfl ?_ | refine WL.storeL (vs := [_, _, _]) st.front2 ty_agg34 rfl rfl rfl rfl (by first | decide | omega) rfl rfl ?_ | refine WL.storeW (vs := [_, _, _]) st.front3 ty_agg34 rfl rfl rfl rfl rfl rfl ?_ | refine WL.storeL (vs := [_, _, _]) st.front3 ty_agg34 rfl rfl rfl rfl (by first | decide | omega) rfl rfl ?_ | refine WL.storeW (vs := [_, _, _]) st.front4 ty_agg34 rfl rfl rfl rfl rfl rfl ?_ | refine WL.storeL (vs := [_, _, _]) st.front4 ty_agg34 rfl rfl rfl rfl (by first | decide | omega) rfl rfl ?_ | refine WL.storeW (vs := [_, _, _]) st.front5 ty_agg34 rfl rfl rfl rfl rfl rfl ?_ | refine WL.storeL (vs := [_, _, _]) st.front5 ty_agg34 rfl rfl rfl rfl (by first | decide | omega) rfl rfl ?_ | refine WL.storeW (vs := [_, _, _]) st.front6 ty_agg34 rfl rfl rfl rfl rfl rfl ?_ | refine WL.storeL (vs := [_, _, _]) st.front6 ty_agg34 rfl rfl rfl rfl (by first | decide | omega) rfl rfl ?_ | refine WL.storeW (vs := [_, _, _]) st.front7 ty_agg34 rfl rfl rfl rfl rfl rfl ?_ | refine WL.storeL (vs := [_, _, _]) st.front7 ty_agg34 rfl rfl rfl rfl (by first | decide | omega) rfl rfl ?_ | refine WL.storeW (vs := [_, _, _]) st.front8 ty_agg34 rfl rfl rfl rfl rfl rfl ?_ | refine WL.storeL (vs := [_, _, _]) st.front8 ty_agg34 rfl rfl rfl rfl (by first | decide | omega) rfl rfl ?_
  intro w st
  refine WL.fin hK749 (fun _ _ h => h) ?_
  refine WC.retC (vs := [_, _, _]) Tryz.results81 (fun _ _ h => h) rfl ty_agg34 rfl ⟨(by first | assumption | exact st.c0 (by first | decide | omega) | exact st.c1 (by first | decide | omega) | exact st.c2 (by first | decide | omega) | exact st.c3 (by first | decide | omega) | exact st.c4 (by first | decide | omega) | exact st.c5 (by first | decide | omega) | exact st.c6 (by first | decide | omega) | exact st.c7 (by first | decide | omega) | exact st.c8 (by first | decide | omega)), (by first | assumption | exact st.c0 (by first | decide | omega) | exact st.c1 (by first | decide | omega) | exact st.c2 (by first | decide | omega) | exact st.c3 (by first | decide | omega) | exact st.c4 (by first | decide | omega) | exact st.c5 (by first | decide | omega) | exact st.c6 (by first | decide | omega) | exact st.c7 (by first | decide | omega) | exact st.c8 (by first | decide | omega)), (by first | assumption | exact st.c0 (by first | decide | omega) | exact st.c1 (by first | decide | omega) | exact st.c2 (by first | decide | omega) | exact st.c3 (by first | decide | omega) | exact st.c4 (by first | decide | omega) | exact st.c5 (by first | decide | omega) | exact st.c6 (by first | decide | omega) | exact st.c7 (by first | decide | omega) | exact st.c8 (by first | decide | omega)), trivial⟩ ?_
  exact ⟨_, rfl, _, XO, hor, rfl, (backr st).drop⟩

def commitP (s : KS) (t : Int) : KS × Int := if callerP s t ≠ 0 then (s, callerP s t) else ({ s with tk := updN s.tk t.toNat { s.tk t.toNat with n := 0 } }, 0)
theorem commit_ok {t : Int} (st : KH w0 B s l w) :
    Calls Tryz.prog 84 #[.pointer (some ⟨B.bk, 0, none⟩), .int .i64 t] w (Ret fun v w' => RK w0 B (commitP s t).1 (commitP s t).2 (-1) l v w') := by
  obtain ⟨Y, qv, XQ, tv, ov, V, st⟩ := st.view
  by_cases hc1 : callerP s t ≠ 0
  · have e : commitP s t = (s, callerP s t) := if_pos hc1
    refine enter [.pointer (some ⟨B.bk, 0, none⟩), .int .i64 t] Tryz.func84 rfl Tryz.ntmps84 rfl ?_
    show WC _ _ _ 23 [] [(0, .pointer (some ⟨B.bk, 0, none⟩)), (1, .int .i64 t)] _
    refine WC.seq fun K750 hK750 => ?_
    -- region 0
    refine WC.region ?_
    -- R0.0 4 := kernel.go:158 alloc
    refine WL.alloc (m := 3) st ty_zero34 rfl rfl rfl ?_
    intro b4 w st
    refine WL.fin hK750 (fun _ _ h => h) ?_
    refine WC.seq fun K751 hK751 => ?_
    refine WC.seq fun K752 hK752 => ?_
    -- region 1
    refine WC.region ?_
    -- R1.0 6 := kernel.go:159 move
    refine WL.v (by first | exact r_move (v := .pointer _) rfl | exact r_move rfl) rfl rfl rfl ?_
    -- R1.1 7 := kernel.go:159 move
    refine WL.v (by first | exact r_move (v := .int _ _) rfl | exact r_move rfl) rfl rfl rfl ?_
    -- R1.2 8 := kernel.go:159 call
    have st : KH w0 B s (zR b4 :: l) w := V.back (I := [_]) st
    refine WL.call (r_call ty_call100 rfl) rfl rfl rfl (caller_ok (t := t) st) ?_
    rintro _ w ⟨rfl, st⟩
    -- R1.3 5 := kernel.go:159 assign
    refine WL.v (by first | exact r_assign (v := .int _ _) rfl | exact r_assign rfl) rfl rfl rfl ?_
    refine WL.fin hK752 (fun _ _ h => h) ?_
    refine WC.seq fun K753 hK753 => ?_
    -- region 2
    refine WC.region ?_
    -- R2.0 9 := kernel.go:159 move
    refine WL.v (by first | exact r_move (v := .int _ _) rfl | exact r_move rfl) rfl rfl rfl ?_
    -- R2.1 10 := kernel.go:159 binOp
    refine WL.v (by first | exact r_neq rfl rfl (decide_eq_true (by omega)) | exact r_neq rfl rfl (decide_eq_false (by omega)) | exact r_neq rfl rfl rfl) rfl rfl rfl ?_
    refine WL.fin hK753 (fun _ _ h => h) ?_
    refine WC.condT rfl rfl ?_
    refine WC.seq fun K754 hK754 => ?_
    -- region 3
    refine WC.region ?_
    -- R3.0 11 := kernel.go:160 move
    refine WL.v (by first | exact r_move (v := .pointer _) rfl | exact r_move rfl) rfl rfl rfl ?_
    -- R3.1 12 := kernel.go:160 move
    refine WL.v (by first | exact r_move (v := .int _ _) rfl | exact r_move rfl) rfl rfl rfl ?_
    -- R3.2 13 := kernel.go:160 call
    refine WL.call (r_call ty_call88 rfl) rfl rfl rfl (done_ok st) ?_
    rintro _ w ⟨ovr, XO, hor, rfl, st⟩
    obtain ⟨ar, cr, br, rfl, -, -, -, -⟩ := hor.form
    obtain ⟨Yr, st, backr⟩ := KH.out (st.perm (List.perm_append_comm_assoc XO [_] l))
    -- R3.3 None := kernel.go:160 store
    first | refine WL.storeW (vs := [_, _, _]) st ty_agg34 rfl rfl rfl rfl rfl rfl ?_ | refine WL.storeL (vs := [_, _, _]) st ty_agg34 rfl rfl rfl rfl (by first | decide | omega) rfl rfl ?_ | refine WL.storeW (vs := [_, _, _]) st.front1 ty_agg34 rfl rfl rfl rfl rfl rfl ?_ | refine WL.storeL (vs := [_, _, _]) st.front1 ty_agg34 rfl rfl rfl rfl (by first | decide | omega) rfl rfl ?_ | refine WL.storeW (vs := [_, _, _]) st.front2 ty_agg34 rfl rfl rfl rfl rfl rfl ?_ | refine WL.storeL (vs := [_, _, _]) st.front2 ty_agg34 rfl rfl rfl rfl (by first | decide | omega) rfl rfl ?_ | refine WL.storeW (vs := [_, _, _]) st.front3 ty_agg34 rfl rfl rfl rfl rfl rfl ?_ | refine WL.storeL (vs := [_, _, _]) st.front3 ty_agg34 rfl rfl rfl rfl (by first | decide | omega) rfl rfl ?_ | refine WL.storeW (vs := [_, _, _]) st.front4 ty_agg34 rfl rfl rfl rfl rfl rfl ?_ | refine WL.storeL (vs := [_, _, _]) st.front4 ty_agg34 rfl rfl rfl rfl (by first | decide | omega) rfl rfl ?_ | refine WL.storeW (vs := [_, _, _]) st.front5 ty_agg34 rfl rfl rfl rfl rfl rfl ?_ | refine WL.storeL (vs := [_, _, _]) st.front5 ty_agg34 rfl rfl rfl rfl (by first | decide | omega) rfl rfl ?_ | refine WL.storeW (vs := [_, _, _]) st.front6 ty_agg34 rfl rfl rfl rfl rfl rfl ?_ | refine WL.storeL (vs := [_, _, _]) st.front6 ty_agg34 rfl rfl rfl rfl (by first | decide | omega) rfl rfl ?_ | refine WL.storeW (vs := [_, _, _]) st.front7 ty_agg34 rfl rfl rfl rfl rfl rfl ?_ | refine WL.storeL (vs := [_, _, _]) st.front7 ty_agg34 rfl rfl rfl rfl (by first | decide | omega) rfl rfl ?_ | refine WL.storeW (vs := [_, _, _]) st.front8 ty_agg34 rfl rfl rfl rfl rfl rfl ?_ | refine WL.storeL (vs := [_, _, _]) st.front8 ty_agg34 rfl rfl rfl rfl (by first | decide | omega) rfl rfl ?_
    intro w st
    refine WL.fin hK754 (fun _ _ h => h) ?_
    refine WC.retC (vs := [_, _, _]) Tryz.results84 (fun _ _ h => h) rfl ty_agg34 rfl ⟨(by first | assumption | exact st.c0 (by first | decide | omega) | exact st.c1 (by first | decide | omega) | exact st.c2 (by first | decide | omega) | exact st.c3 (by first | decide | omega) | exact st.c4 (by first | decide | omega) | exact st.c5 (by first | decide | omega) | exact st.c6 (by first | decide | omega) | exact st.c7 (by first | decide | omega) | exact st.c8 (by first | decide | omega)), (by first | assumption | exact st.c0 (by first | decide | omega) | exact st.c1 (by first | decide | omega) | exact st.c2 (by first | decide | omega) | exact st.c3 (by first | decide | omega) | exact st.c4 (by first | decide | omega) | exact st.c5 (by first | decide | omega) | exact st.c6 (by first | decide | omega) | exact st.c7 (by first | decide | omega) | exact st.c8 (by first | decide | omega)), (by first | assumption | exact st.c0 (by first | decide | omega) | exact st.c1 (by first | decide | omega) | exact st.c2 (by first | decide | omega) | exact st.c3 (by first | decide | omega) | exact st.c4 (by first | decide | omega) | exact st.c5 (by first | decide | omega) | exact st.c6 (by first | decide | omega) | exact st.c7 (by first | decide | omega) | exact st.c8 (by first | decide | omega)), trivial⟩ ?_
    rw [e]
    exact ⟨_, rfl, _, XO, hor, rfl, (backr st).drop⟩
  have hc1 : callerP s t = 0 := Classical.not_not.1 hc1
  obtain ⟨ht0, ht16⟩ := callerP_ok hc1
  obtain ⟨t, rfl⟩ : ∃ n : Nat, t = n := ⟨t.toNat, by omega⟩
  have ht : t < 16 := by omega
  have e : commitP s (t : Nat) = ({ s with tk := updN s.tk t { s.tk t with n := 0 } }, 0) := by unfold commitP; rw [if_neg (fun h => h hc1), Int.toNat_natCast]
  refine enter [.pointer (some ⟨B.bk, 0, none⟩), .int .i64 (t : Nat)] Tryz.func84 rfl Tryz.ntmps84 rfl ?_
  show WC _ _ _ 23 [] [(0, .pointer (some ⟨B.bk, 0, none⟩)), (1, .int .i64 (t : Nat))] _
  refine WC.seq fun K755 hK755 => ?_
  -- region 0
  refine WC.region ?_
  -- R0.0 4 := kernel.go:158 alloc
  refine WL.alloc (m := 3) st ty_zero34 rfl rfl rfl ?_
  intro b4 w st
  refine WL.fin hK755 (fun _ _ h => h) ?_
  refine WC.seq fun K756 hK756 => ?_
  refine WC.seq fun K757 hK757 => ?_
  -- region 1
  refine WC.region ?_
  -- R1.0 6 := kernel.go:159 move
  refine WL.v (by first | exact r_move (v := .pointer _) rfl | exact r_move rfl) rfl rfl rfl ?_
  -- R1.1 7 := kernel.go:159 move
  refine WL.v (by first | exact r_move (v := .int _ _) rfl | exact r_move rfl) rfl rfl rfl ?_
  -- R1.2 8 := kernel.go:159 call
  have st : KH w0 B s (zR b4 :: l) w := V.back (I := [_]) st
  refine WL.call (r_call ty_call100 rfl) rfl rfl rfl (caller_ok (t := t) st) ?_
  rintro _ w ⟨rfl, st⟩
  -- R1.3 5 := kernel.go:159 assign
  refine WL.v (by exact r_assign (v := .int .i64 0) (congrArg (Value.int .i64) hc1)) rfl rfl rfl ?_
  refine WL.fin hK757 (fun _ _ h => h) ?_
  refine WC.seq fun K758 hK758 => ?_
  -- region 2
  refine WC.region ?_
  -- R2.0 9 := kernel.go:159 move
  refine WL.v (by first | exact r_move (v := .int _ _) rfl | exact r_move rfl) rfl rfl rfl ?_
  -- R2.1 10 := kernel.go:159 binOp
  refine WL.v (by first | exact r_neq rfl rfl (decide_eq_true (by omega)) | exact r_neq rfl rfl (decide_eq_false (by omega)) | exact r_neq rfl rfl rfl) rfl rfl rfl ?_
  refine WL.fin hK758 (fun _ _ h => h) ?_
  refine WC.condF rfl rfl ?_
  refine WC.skipF hK756 (fun _ _ h => h) ?_
  refine WC.seq fun K759 hK759 => ?_
  -- region 4
  refine WC.region ?_
  -- R4.0 14 := kernel.go:162 move
  refine WL.v (by first | exact r_move (v := .pointer _) rfl | exact r_move rfl) rfl rfl rfl ?_
  -- R4.1 15 := kernel.go:162 move
  refine WL.v (by first | exact r_move (v := .int _ _) rfl | exact r_move rfl) rfl rfl rfl ?_
  -- R4.2 16 := kernel.go:162 nilCheck
  refine WL.v (by exact r_nilCheck rfl) rfl rfl rfl ?_
  -- R4.3 17 := kernel.go:162 fieldAddr
  refine WL.v (by exact r_field ty_fld120_3 rfl) rfl rfl rfl ?_
  -- R4.4 18 := kernel.go:162 indexAddr
  refine WL.v (by exact r_indexA ty_ar118 rfl rfl rfl (by omega)) rfl rfl rfl ?_
  -- R4.5 19 := kernel.go:162 fieldAddr
  refine WL.v (by exact r_field ty_fld117_6 rfl) rfl rfl rfl ?_
  -- R4.6 20 := kernel.go:162 call
  obtain ⟨ov1, Y1, st, back1⟩ := st.ker
  refine WL.call (r_call ty_call110 rfl) rfl rfl rfl (forget_ok (a := 0 + 3 + t * 135 + 6) ht (by omega) st) ?_
  rintro _ w ⟨rfl, st⟩
  have st := back1 st
  refine WL.fin hK759 (fun _ _ h => h) ?_
  refine WC.seq fun K760 hK760 => ?_
  -- region 5
  refine WC.region ?_
  -- R5.0 21 := kernel.go:163 move
  refine WL.v (by first | exact r_move (v := .pointer _) rfl | exact r_move rfl) rfl rfl rfl ?_
  -- R5.1 22 := kernel.go:163 call
  refine WL.call (r_call ty_call88 rfl) rfl rfl rfl (done_ok st) ?_
  rintro _ w ⟨ovr, XO, hor, rfl, st⟩
  obtain ⟨ar, cr, br, rfl, -, -, -, -⟩ := hor.form
  obtain ⟨Yr, st, backr⟩ := KH.out (st.perm (List.perm_append_comm_assoc XO [_] l))
  -- R5.2 None := kernel.go:163 store
  first | refine WL.storeW (vs := [_, _, _]) st ty_agg34 rfl rfl rfl rfl rfl rfl ?_ | refine WL.storeL (vs := [_, _, _]) st ty_agg34 rfl rfl rfl rfl (by first | decide | omega) rfl rfl ?_ | refine WL.storeW (vs := [_, _, _]) st.front1 ty_agg34 rfl rfl rfl rfl rfl rfl ?_ | refine WL.storeL (vs := [_, _, _]) st.front1 ty_agg34 rfl rfl rfl rfl (by first | decide | omega) rfl rfl ?_ | refine WL.storeW (vs := [_, _, _]) st.front2 ty_agg34 rfl rfl rfl rfl rfl rfl ?_ | refine WL.storeL (vs := [_, _, _]) st.front2 ty_agg34 rfl rfl rfl rfl (by first | decide | omega) rfl rfl ?_ | refine WL.storeW (vs := [_, _, _]) st.front3 ty_agg34 rfl rfl rfl rfl rfl rfl ?_ | refine WL.storeL (vs := [_, _, _]) st.front3 ty_agg34 rfl rfl rfl rfl (by first | decide | omega) rfl rfl ?_ | refine WL.storeW (vs := [_, _, _]) st.front4 ty_agg34 rfl rfl rfl rfl rfl rfl ?_ | refine WL.storeL (vs := [_, _, _]) st.front4 ty_agg34 rfl rfl rfl rfl (by first | decide | omega) rfl rfl ?_ | refine WL.storeW (vs := [_, _, _]) st.front5 ty_agg34 rfl rfl rfl rfl rfl rfl ?_ | refine WL.storeL (vs := [_, _, _]) st.front5 ty_agg34 rfl rfl rfl rfl (by first | decide | omega) rfl rfl ?_ | refine WL.storeW (vs := [_, _, _]) st.front6 ty_agg34 rfl rfl rfl rfl rfl rfl ?_ | refine WL.storeL (vs := [_, _, _]) st.front6 ty_agg34 rfl rfl rfl rfl (by first | decide | omega) rfl rfl ?_ | refine WL.storeW (vs := [_, _, _]) st.front7 ty_agg34 rfl rfl rfl rfl rfl rfl ?_ | refine WL.storeL (vs := [_, _, _]) st.front7 ty_agg34 rfl rfl rfl rfl (by first | decide | omega) rfl rfl ?_ | refine WL.storeW (vs := [_, _, _]) st.front8 ty_agg34 rfl rfl rfl rfl rfl rfl ?_ | refine WL.storeL (vs := [_, _, _]) st.front8 ty_agg34 rfl rfl rfl rfl (by first | decide | omega) rfl rfl ?_
  intro w st
  refine WL.fin hK760 (fun _ _ h => h) ?_
  refine WC.retC (vs := [_, _, _]) Tryz.results84 (fun _ _ h => h) rfl ty_agg34 rfl ⟨(by first | assumption | exact st.c0 (by first | decide | omega) | exact st.c1 (by first | decide | omega) | exact st.c2 (by first | decide | omega) | exact st.c3 (by first | decide | omega) | exact st.c4 (by first | decide | omega) | exact st.c5 (by first | decide | omega) | exact st.c6 (by first | decide | omega) | exact st.c7 (by first | decide | omega) | exact st.c8 (by first | decide | omega)), (by first | assumption | exact st.c0 (by first | decide | omega) | exact st.c1 (by first | decide | omega) | exact st.c2 (by first | decide | omega) | exact st.c3 (by first | decide | omega) | exact st.c4 (by first | decide | omega) | exact st.c5 (by first | decide | omega) | exact st.c6 (by first | decide | omega) | exact st.c7 (by first | decide | omega) | exact st.c8 (by first | decide | omega)), (by first | assumption | exact st.c0 (by first | decide | omega) | exact st.c1 (by first | decide | omega) | exact st.c2 (by first | decide | omega) | exact st.c3 (by first | decide | omega) | exact st.c4 (by first | decide | omega) | exact st.c5 (by first | decide | omega) | exact st.c6 (by first | decide | omega) | exact st.c7 (by first | decide | omega) | exact st.c8 (by first | decide | omega)), trivial⟩ ?_
  rw [e]
  exact ⟨_, rfl, _, XO, hor, rfl, (backr st).drop⟩

def writeP (s : KS) (t c : Int) (x : Nat) : KS × Int :=
  if callerP s t ≠ 0 then (s, callerP s t)
  else if c < 0 ∨ 12 ≤ c then (s, 18)
  else if s.held t.toNat (8 + c.toNat) ≠ 16 then (s, 19)
  else if (s.tk t.toNat).n = 64 then (s, 20)
  else ({ s with tk := updN s.tk t.toNat (pushP (s.tk t.toNat) c.toNat (s.cells c.toNat)), cells := updN s.cells c.toNat x }, 0)
set_option maxHeartbeats 2000000 in
theorem write_ok {t c : Int} {x : Nat} (hB : KB N s) (st : KH w0 B s l w) :
    Calls Tryz.prog 83 #[.pointer (some ⟨B.bk, 0, none⟩), .int .i64 t, .int .i64 c, .int .u64 (x : Nat)] w (Ret fun v w' => RK w0 B (writeP s t c x).1 (writeP s t c x).2 (-1) l v w') := by
  obtain ⟨Y, qv, XQ, tv, ov, V, st⟩ := st.view
  by_cases hc1 : callerP s t ≠ 0
  · have e : writeP s t c x = (s, callerP s t) := if_pos hc1
    refine enter [.pointer (some ⟨B.bk, 0, none⟩), .int .i64 t, .int .i64 c, .int .u64 (x : Nat)] Tryz.func83 rfl Tryz.ntmps83 rfl ?_
    show WC _ _ _ 65 [] [(0, .pointer (some ⟨B.bk, 0, none⟩)), (1, .int .i64 t), (2, .int .i64 c), (3, .int .u64 (x : Nat))] _
    refine WC.seq fun K761 hK761 => ?_
    -- region 0
    refine WC.region ?_
    -- R0.0 8 := kernel.go:138 alloc
    refine WL.alloc (m := 3) st ty_zero34 rfl rfl rfl ?_
    intro b8 w st
    refine WL.fin hK761 (fun _ _ h => h) ?_
    refine WC.seq fun K762 hK762 => ?_
    refine WC.seq fun K763 hK763 => ?_
    -- region 1
    refine WC.region ?_
    -- R1.0 11 := kernel.go:139 move
    refine WL.v (by first | exact r_move (v := .pointer _) rfl | exact r_move rfl) rfl rfl rfl ?_
    -- R1.1 12 := kernel.go:139 move
    refine WL.v (by first | exact r_move (v := .int _ _) rfl | exact r_move rfl) rfl rfl rfl ?_
    -- R1.2 13 := kernel.go:139 call
    have st : KH w0 B s (zR b8 :: l) w := V.back (I := [_]) st
    refine WL.call (r_call ty_call100 rfl) rfl rfl rfl (caller_ok (t := t) st) ?_
    rintro _ w ⟨rfl, st⟩
    -- R1.3 9 := kernel.go:139 assign
    refine WL.v (by first | exact r_assign (v := .int _ _) rfl | exact r_assign rfl) rfl rfl rfl ?_
    refine WL.fin hK763 (fun _ _ h => h) ?_
    refine WC.seq fun K764 hK764 => ?_
    -- region 2
    refine WC.region ?_
    -- R2.0 14 := kernel.go:139 move
    refine WL.v (by first | exact r_move (v := .int _ _) rfl | exact r_move rfl) rfl rfl rfl ?_
    -- R2.1 15 := kernel.go:139 binOp
    refine WL.v (by first | exact r_neq rfl rfl (decide_eq_true (by omega)) | exact r_neq rfl rfl (decide_eq_false (by omega)) | exact r_neq rfl rfl rfl) rfl rfl rfl ?_
    refine WL.fin hK764 (fun _ _ h => h) ?_
    refine WC.condT rfl rfl ?_
    refine WC.seq fun K765 hK765 => ?_
    -- region 3
    refine WC.region ?_
    -- R3.0 16 := kernel.go:140 move
    refine WL.v (by first | exact r_move (v := .pointer _) rfl | exact r_move rfl) rfl rfl rfl ?_
    -- R3.1 17 := kernel.go:140 move
    refine WL.v (by first | exact r_move (v := .int _ _) rfl | exact r_move rfl) rfl rfl rfl ?_
    -- R3.2 18 := kernel.go:140 call
    refine WL.call (r_call ty_call88 rfl) rfl rfl rfl (done_ok st) ?_
    rintro _ w ⟨ovr, XO, hor, rfl, st⟩
    obtain ⟨ar, cr, br, rfl, -, -, -, -⟩ := hor.form
    obtain ⟨Yr, st, backr⟩ := KH.out (st.perm (List.perm_append_comm_assoc XO [_] l))
    -- R3.3 None := kernel.go:140 store
    first | refine WL.storeW (vs := [_, _, _]) st ty_agg34 rfl rfl rfl rfl rfl rfl ?_ | refine WL.storeL (vs := [_, _, _]) st ty_agg34 rfl rfl rfl rfl (by first | decide | omega) rfl rfl ?_ | refine WL.storeW (vs := [_, _, _]) st.front1 ty_agg34 rfl rfl rfl rfl rfl rfl ?_ | refine WL.storeL (vs := [_, _, _]) st.front1 ty_agg34 rfl rfl rfl rfl (by first | decide | omega) rfl rfl ?_ | refine WL.storeW (vs := [_, _, _]) st.front2 ty_agg34 rfl rfl rfl rfl rfl rfl ?_ | refine WL.storeL (vs := [_, _, _]) st.front2 ty_agg34 rfl rfl rfl rfl (by first | decide | omega) rfl rfl ?_ | refine WL.storeW (vs := [_, _, _]) st.front3 ty_agg34 rfl rfl rfl rfl rfl rfl ?_ | refine WL.storeL (vs := [_, _, _]) st.front3 ty_agg34 rfl rfl rfl rfl (by first | decide | omega) rfl rfl ?_ | refine WL.storeW (vs := [_, _, _]) st.front4 ty_agg34 rfl rfl rfl rfl rfl rfl ?_ | refine WL.storeL (vs := [_, _, _]) st.front4 ty_agg34 rfl rfl rfl rfl (by first | decide | omega) rfl rfl ?_ | refine WL.storeW (vs := [_, _, _]) st.front5 ty_agg34 rfl rfl rfl rfl rfl rfl ?_ | refine WL.storeL (vs := [_, _, _]) st.front5 ty_agg34 rfl rfl rfl rfl (by first | decide | omega) rfl rfl ?_ | refine WL.storeW (vs := [_, _, _]) st.front6 ty_agg34 rfl rfl rfl rfl rfl rfl ?_ | refine WL.storeL (vs := [_, _, _]) st.front6 ty_agg34 rfl rfl rfl rfl (by first | decide | omega) rfl rfl ?_ | refine WL.storeW (vs := [_, _, _]) st.front7 ty_agg34 rfl rfl rfl rfl rfl rfl ?_ | refine WL.storeL (vs := [_, _, _]) st.front7 ty_agg34 rfl rfl rfl rfl (by first | decide | omega) rfl rfl ?_ | refine WL.storeW (vs := [_, _, _]) st.front8 ty_agg34 rfl rfl rfl rfl rfl rfl ?_ | refine WL.storeL (vs := [_, _, _]) st.front8 ty_agg34 rfl rfl rfl rfl (by first | decide | omega) rfl rfl ?_
    intro w st
    refine WL.fin hK765 (fun _ _ h => h) ?_
    refine WC.retC (vs := [_, _, _]) Tryz.results83 (fun _ _ h => h) rfl ty_agg34 rfl ⟨(by first | assumption | exact st.c0 (by first | decide | omega) | exact st.c1 (by first | decide | omega) | exact st.c2 (by first | decide | omega) | exact st.c3 (by first | decide | omega) | exact st.c4 (by first | decide | omega) | exact st.c5 (by first | decide | omega) | exact st.c6 (by first | decide | omega) | exact st.c7 (by first | decide | omega) | exact st.c8 (by first | decide | omega)), (by first | assumption | exact st.c0 (by first | decide | omega) | exact st.c1 (by first | decide | omega) | exact st.c2 (by first | decide | omega) | exact st.c3 (by first | decide | omega) | exact st.c4 (by first | decide | omega) | exact st.c5 (by first | decide | omega) | exact st.c6 (by first | decide | omega) | exact st.c7 (by first | decide | omega) | exact st.c8 (by first | decide | omega)), (by first | assumption | exact st.c0 (by first | decide | omega) | exact st.c1 (by first | decide | omega) | exact st.c2 (by first | decide | omega) | exact st.c3 (by first | decide | omega) | exact st.c4 (by first | decide | omega) | exact st.c5 (by first | decide | omega) | exact st.c6 (by first | decide | omega) | exact st.c7 (by first | decide | omega) | exact st.c8 (by first | decide | omega)), trivial⟩ ?_
    rw [e]
    exact ⟨_, rfl, _, XO, hor, rfl, (backr st).drop⟩
  have hc1 : callerP s t = 0 := Classical.not_not.1 hc1
  obtain ⟨ht0, ht16⟩ := callerP_ok hc1
  obtain ⟨t, rfl⟩ : ∃ n : Nat, t = n := ⟨t.toNat, by omega⟩
  have ht : t < 16 := by omega
  have e1 : writeP s (t : Nat) c x = if c < 0 ∨ 12 ≤ c then (s, 18) else if s.held t (8 + c.toNat) ≠ 16 then (s, 19) else if (s.tk t).n = 64 then (s, 20) else ({ s with tk := updN s.tk t (pushP (s.tk t) c.toNat (s.cells c.toNat)), cells := updN s.cells c.toNat x }, 0) := by unfold writeP; rw [if_neg (fun h => h hc1), Int.toNat_natCast]
  by_cases hc0 : c < 0
  · have e : writeP s (t : Nat) c x = (s, 18) := e1.trans (if_pos (.inl hc0))
    refine enter [.pointer (some ⟨B.bk, 0, none⟩), .int .i64 (t : Nat), .int .i64 c, .int .u64 (x : Nat)] Tryz.func83 rfl Tryz.ntmps83 rfl ?_
    show WC _ _ _ 65 [] [(0, .pointer (some ⟨B.bk, 0, none⟩)), (1, .int .i64 (t : Nat)), (2, .int .i64 c), (3, .int .u64 (x : Nat))] _
    refine WC.seq fun K766 hK766 => ?_
    -- region 0
    refine WC.region ?_
    -- R0.0 8 := kernel.go:138 alloc
    refine WL.alloc (m := 3) st ty_zero34 rfl rfl rfl ?_
    intro b8 w st
    refine WL.fin hK766 (fun _ _ h => h) ?_
    refine WC.seq fun K767 hK767 => ?_
    refine WC.seq fun K768 hK768 => ?_
    -- region 1
    refine WC.region ?_
    -- R1.0 11 := kernel.go:139 move
    refine WL.v (by first | exact r_move (v := .pointer _) rfl | exact r_move rfl) rfl rfl rfl ?_
    -- R1.1 12 := kernel.go:139 move
    refine WL.v (by first | exact r_move (v := .int _ _) rfl | exact r_move rfl) rfl rfl rfl ?_
    -- R1.2 13 := kernel.go:139 call
    have st : KH w0 B s (zR b8 :: l) w := V.back (I := [_]) st
    refine WL.call (r_call ty_call100 rfl) rfl rfl rfl (caller_ok (t := t) st) ?_
    rintro _ w ⟨rfl, st⟩
    -- R1.3 9 := kernel.go:139 assign
    refine WL.v (by exact r_assign (v := .int .i64 0) (congrArg (Value.int .i64) hc1)) rfl rfl rfl ?_
    refine WL.fin hK768 (fun _ _ h => h) ?_
    refine WC.seq fun K769 hK769 => ?_
    -- region 2
    refine WC.region ?_
    -- R2.0 14 := kernel.go:139 move
    refine WL.v (by first | exact r_move (v := .int _ _) rfl | exact r_move rfl) rfl rfl rfl ?_
    -- R2.1 15 := kernel.go:139 binOp
    refine WL.v (by first | exact r_neq rfl rfl (decide_eq_true (by omega)) | exact r_neq rfl rfl (decide_eq_false (by omega)) | exact r_neq rfl rfl rfl) rfl rfl rfl ?_
    refine WL.fin hK769 (fun _ _ h => h) ?_
    refine WC.condF rfl rfl ?_
    refine WC.skipF hK767 (fun _ _ h => h) ?_
    refine WC.seq fun K770 hK770 => ?_
    refine WC.seq fun K771 hK771 => ?_
    -- region 4
    refine WC.region ?_
    -- R4.0 19 := kernel.go:142 move
    refine WL.v (by first | exact r_move (v := .int _ _) rfl | exact r_move rfl) rfl rfl rfl ?_
    -- R4.1 20 := kernel.go:142 binOp
    refine WL.v (by first | exact r_lss rfl rfl (decide_eq_true (by omega)) | exact r_lss rfl rfl (decide_eq_false (by omega)) | exact r_lss rfl rfl rfl) rfl rfl rfl ?_
    -- R4.2 21 := kernel.go:142 move
    refine WL.v (by first | exact r_move (v := .bool _) rfl | exact r_move rfl) rfl rfl rfl ?_
    -- R4.3 22 := kernel.go:142 move
    refine WL.no rfl rfl ?_
    -- R4.4 23 := kernel.go:142 binOp
    refine WL.no rfl rfl ?_
    -- R4.5 24 := kernel.go:142 pick
    refine WL.v (by first | exact r_pickT (v := .bool _) rfl rfl | exact r_pickF (v := .bool _) rfl rfl) rfl rfl rfl ?_
    refine WL.fin hK771 (fun _ _ h => h) ?_
    refine WC.condT rfl rfl ?_
    refine WC.seq fun K772 hK772 => ?_
    -- region 5
    refine WC.region ?_
    -- R5.0 25 := kernel.go:143 move
    refine WL.v (by first | exact r_move (v := .pointer _) rfl | exact r_move rfl) rfl rfl rfl ?_
    -- R5.1 26 := kernel.go:143 call
    refine WL.call (r_call ty_call88 rfl) rfl rfl rfl (done_ok st) ?_
    rintro _ w ⟨ovr, XO, hor, rfl, st⟩
    obtain ⟨ar, cr, br, rfl, -, -, -, -⟩ := hor.form
    obtain ⟨Yr, st, backr⟩ := KH.out (st.perm (List.perm_append_comm_assoc XO [_] l))
    -- R5.2 None := kernel.go:143 store
    first | refine WL.storeW (vs := [_, _, _]) st ty_agg34 rfl rfl rfl rfl rfl rfl ?_ | refine WL.storeL (vs := [_, _, _]) st ty_agg34 rfl rfl rfl rfl (by first | decide | omega) rfl rfl ?_ | refine WL.storeW (vs := [_, _, _]) st.front1 ty_agg34 rfl rfl rfl rfl rfl rfl ?_ | refine WL.storeL (vs := [_, _, _]) st.front1 ty_agg34 rfl rfl rfl rfl (by first | decide | omega) rfl rfl ?_ | refine WL.storeW (vs := [_, _, _]) st.front2 ty_agg34 rfl rfl rfl rfl rfl rfl ?_ | refine WL.storeL (vs := [_, _, _]) st.front2 ty_agg34 rfl rfl rfl rfl (by first | decide | omega) rfl rfl ?_ | refine WL.storeW (vs := [_, _, _]) st.front3 ty_agg34 rfl rfl rfl rfl rfl rfl ?_ | refine WL.storeL (vs := [_, _, _]) st.front3 ty_agg34 rfl rfl rfl rfl (by first | decide | omega) rfl rfl ?_ | refine WL.storeW (vs := [_, _, _]) st.front4 ty_agg34 rfl rfl rfl rfl rfl rfl ?_ | refine WL.storeL (vs := [_, _, _]) st.front4 ty_agg34 rfl rfl rfl rfl (by first | decide | omega) rfl rfl ?_ | refine WL.storeW (vs := [_, _, _]) st.front5 ty_agg34 rfl rfl rfl rfl rfl rfl ?_ | refine WL.storeL (vs := [_, _, _]) st.front5 ty_agg34 rfl rfl rfl rfl (by first | decide | omega) rfl rfl ?_ | refine WL.storeW (vs := [_, _, _]) st.front6 ty_agg34 rfl rfl rfl rfl rfl rfl ?_ | refine WL.storeL (vs := [_, _, _]) st.front6 ty_agg34 rfl rfl rfl rfl (by first | decide | omega) rfl rfl ?_ | refine WL.storeW (vs := [_, _, _]) st.front7 ty_agg34 rfl rfl rfl rfl rfl rfl ?_ | refine WL.storeL (vs := [_, _, _]) st.front7 ty_agg34 rfl rfl rfl rfl (by first | decide | omega) rfl rfl ?_ | refine WL.storeW (vs := [_, _, _]) st.front8 ty_agg34 rfl rfl rfl rfl rfl rfl ?_ | refine WL.storeL (vs := [_, _, _]) st.front8 ty_agg34 rfl rfl rfl rfl (by first | decide | omega) rfl rfl ?_
    intro w st
    refine WL.fin hK772 (fun _ _ h => h) ?_
    refine WC.retC (vs := [_, _, _]) Tryz.results83 (fun _ _ h => h) rfl ty_agg34 rfl ⟨(by first | assumption | exact st.c0 (by first | decide | omega) | exact st.c1 (by first | decide | omega) | exact st.c2 (by first | decide | omega) | exact st.c3 (by first | decide | omega) | exact st.c4 (by first | decide | omega) | exact st.c5 (by first | decide | omega) | exact st.c6 (by first | decide | omega) | exact st.c7 (by first | decide | omega) | exact st.c8 (by first | decide | omega)), (by first | assumption | exact st.c0 (by first | decide | omega) | exact st.c1 (by first | decide | omega) | exact st.c2 (by first | decide | omega) | exact st.c3 (by first | decide | omega) | exact st.c4 (by first | decide | omega) | exact st.c5 (by first | decide | omega) | exact st.c6 (by first | decide | omega) | exact st.c7 (by first | decide | omega) | exact st.c8 (by first | decide | omega)), (by first | assumption | exact st.c0 (by first | decide | omega) | exact st.c1 (by first | decide | omega) | exact st.c2 (by first | decide | omega) | exact st.c3 (by first | decide | omega) | exact st.c4 (by first | decide | omega) | exact st.c5 (by first | decide | omega) | exact st.c6 (by first | decide | omega) | exact st.c7 (by first | decide | omega) | exact st.c8 (by first | decide | omega)), trivial⟩ ?_
    rw [e]
    exact ⟨_, rfl, _, XO, hor, rfl, (backr st).drop⟩
  by_cases hc12 : 12 ≤ c
  · have e : writeP s (t : Nat) c x = (s, 18) := e1.trans (if_pos (.inr hc12))
    refine enter [.pointer (some ⟨B.bk, 0, none⟩), .int .i64 (t : Nat), .int .i64 c, .int .u64 (x : Nat)] Tryz.func83 rfl Tryz.ntmps83 rfl ?_
    show WC _ _ _ 65 [] [(0, .pointer (some ⟨B.bk, 0, none⟩)), (1, .int .i64 (t : Nat)), (2, .int .i64 c), (3, .int .u64 (x : Nat))] _
    refine WC.seq fun K773 hK773 => ?_
    -- region 0
    refine WC.region ?_
    -- R0.0 8 := kernel.go:138 alloc
    refine WL.alloc (m := 3) st ty_zero34 rfl rfl rfl ?_
    intro b8 w st
    refine WL.fin hK773 (fun _ _ h => h) ?_
    refine WC.seq fun K774 hK774 => ?_
    refine WC.seq fun K775 hK775 => ?_
    -- region 1
    refine WC.region ?_
    -- R1.0 11 := kernel.go:139 move
    refine WL.v (by first | exact r_move (v := .pointer _) rfl | exact r_move rfl) rfl rfl rfl ?_
    -- R1.1 12 := kernel.go:139 move
    refine WL.v (by first | exact r_move (v := .int _ _) rfl | exact r_move rfl) rfl rfl rfl ?_
    -- R1.2 13 := kernel.go:139 call
    have st : KH w0 B s (zR b8 :: l) w := V.back (I := [_]) st
    refine WL.call (r_call ty_call100 rfl) rfl rfl rfl (caller_ok (t := t) st) ?_
    rintro _ w ⟨rfl, st⟩
    -- R1.3 9 := kernel.go:139 assign
    refine WL.v (by exact r_assign (v := .int .i64 0) (congrArg (Value.int .i64) hc1)) rfl rfl rfl ?_
    refine WL.fin hK775 (fun _ _ h => h) ?_
    refine WC.seq fun K776 hK776 => ?_
    -- region 2
    refine WC.region ?_
    -- R2.0 14 := kernel.go:139 move
    refine WL.v (by first | exact r_move (v := .int _ _) rfl | exact r_move rfl) rfl rfl rfl ?_
    -- R2.1 15 := kernel.go:139 binOp
    refine WL.v (by first | exact r_neq rfl rfl (decide_eq_true (by omega)) | exact r_neq rfl rfl (decide_eq_false (by omega)) | exact r_neq rfl rfl rfl) rfl rfl rfl ?_
    refine WL.fin hK776 (fun _ _ h => h) ?_
    refine WC.condF rfl rfl ?_
    refine WC.skipF hK774 (fun _ _ h => h) ?_
    refine WC.seq fun K777 hK777 => ?_
    refine WC.seq fun K778 hK778 => ?_
    -- region 4
    refine WC.region ?_
    -- R4.0 19 := kernel.go:142 move
    refine WL.v (by first | exact r_move (v := .int _ _) rfl | exact r_move rfl) rfl rfl rfl ?_
    -- R4.1 20 := kernel.go:142 binOp
    refine WL.v (by first | exact r_lss rfl rfl (decide_eq_true (by omega)) | exact r_lss rfl rfl (decide_eq_false (by omega)) | exact r_lss rfl rfl rfl) rfl rfl rfl ?_
    -- R4.2 21 := kernel.go:142 move
    refine WL.v (by first | exact r_move (v := .bool _) rfl | exact r_move rfl) rfl rfl rfl ?_
    -- R4.3 22 := kernel.go:142 move
    refine WL.v (by first | exact r_move (v := .int _ _) rfl | exact r_move rfl) rfl rfl rfl ?_
    -- R4.4 23 := kernel.go:142 binOp
    refine WL.v (by first | exact r_geq rfl rfl (decide_eq_true (by omega)) | exact r_geq rfl rfl (decide_eq_false (by omega)) | exact r_geq rfl rfl rfl) rfl rfl rfl ?_
    -- R4.5 24 := kernel.go:142 pick
    refine WL.v (by first | exact r_pickT (v := .bool _) rfl rfl | exact r_pickF (v := .bool _) rfl rfl) rfl rfl rfl ?_
    refine WL.fin hK778 (fun _ _ h => h) ?_
    refine WC.condT rfl rfl ?_
    refine WC.seq fun K779 hK779 => ?_
    -- region 5
    refine WC.region ?_
    -- R5.0 25 := kernel.go:143 move
    refine WL.v (by first | exact r_move (v := .pointer _) rfl | exact r_move rfl) rfl rfl rfl ?_
    -- R5.1 26 := kernel.go:143 call
    refine WL.call (r_call ty_call88 rfl) rfl rfl rfl (done_ok st) ?_
    rintro _ w ⟨ovr, XO, hor, rfl, st⟩
    obtain ⟨ar, cr, br, rfl, -, -, -, -⟩ := hor.form
    obtain ⟨Yr, st, backr⟩ := KH.out (st.perm (List.perm_append_comm_assoc XO [_] l))
    -- R5.2 None := kernel.go:143 store
    first | refine WL.storeW (vs := [_, _, _]) st ty_agg34 rfl rfl rfl rfl rfl rfl ?_ | refine WL.storeL (vs := [_, _, _]) st ty_agg34 rfl rfl rfl rfl (by first | decide | omega) rfl rfl ?_ | refine WL.storeW (vs := [_, _, _]) st.front1 ty_agg34 rfl rfl rfl rfl rfl rfl ?_ | refine WL.storeL (vs := [_, _, _]) st.front1 ty_agg34 rfl rfl rfl rfl (by first | decide | omega) rfl rfl ?_ | refine WL.storeW (vs := [_, _, _]) st.front2 ty_agg34 rfl rfl rfl rfl rfl rfl ?_ | refine WL.storeL (vs := [_, _, _]) st.front2 ty_agg34 rfl rfl rfl rfl (by first | decide | omega) rfl rfl ?_ | refine WL.storeW (vs := [_, _, _]) st.front3 ty_agg34 rfl rfl rfl rfl rfl rfl ?_ | refine WL.storeL (vs := [_, _, _]) st.front3 ty_agg34 rfl rfl rfl rfl (by first | decide | omega) rfl rfl ?_ | refine WL.storeW (vs := [_, _, _]) st.front4 ty_agg34 rfl rfl rfl rfl rfl rfl ?_ | refine WL.storeL (vs := [_, _, _]) st.front4 ty_agg34 rfl rfl rfl rfl (by first | decide | omega) rfl rfl ?_ | refine WL.storeW (vs := [_, _, _]) st.front5 ty_agg34 rfl rfl rfl rfl rfl rfl ?_ | refine WL.storeL (vs := [_, _, _]) st.front5 ty_agg34 rfl rfl rfl rfl (by first | decide | omega) rfl rfl ?_ | refine WL.storeW (vs := [_, _, _]) st.front6 ty_agg34 rfl rfl rfl rfl rfl rfl ?_ | refine WL.storeL (vs := [_, _, _]) st.front6 ty_agg34 rfl rfl rfl rfl (by first | decide | omega) rfl rfl ?_ | refine WL.storeW (vs := [_, _, _]) st.front7 ty_agg34 rfl rfl rfl rfl rfl rfl ?_ | refine WL.storeL (vs := [_, _, _]) st.front7 ty_agg34 rfl rfl rfl rfl (by first | decide | omega) rfl rfl ?_ | refine WL.storeW (vs := [_, _, _]) st.front8 ty_agg34 rfl rfl rfl rfl rfl rfl ?_ | refine WL.storeL (vs := [_, _, _]) st.front8 ty_agg34 rfl rfl rfl rfl (by first | decide | omega) rfl rfl ?_
    intro w st
    refine WL.fin hK779 (fun _ _ h => h) ?_
    refine WC.retC (vs := [_, _, _]) Tryz.results83 (fun _ _ h => h) rfl ty_agg34 rfl ⟨(by first | assumption | exact st.c0 (by first | decide | omega) | exact st.c1 (by first | decide | omega) | exact st.c2 (by first | decide | omega) | exact st.c3 (by first | decide | omega) | exact st.c4 (by first | decide | omega) | exact st.c5 (by first | decide | omega) | exact st.c6 (by first | decide | omega) | exact st.c7 (by first | decide | omega) | exact st.c8 (by first | decide | omega)), (by first | assumption | exact st.c0 (by first | decide | omega) | exact st.c1 (by first | decide | omega) | exact st.c2 (by first | decide | omega) | exact st.c3 (by first | decide | omega) | exact st.c4 (by first | decide | omega) | exact st.c5 (by first | decide | omega) | exact st.c6 (by first | decide | omega) | exact st.c7 (by first | decide | omega) | exact st.c8 (by first | decide | omega)), (by first | assumption | exact st.c0 (by first | decide | omega) | exact st.c1 (by first | decide | omega) | exact st.c2 (by first | decide | omega) | exact st.c3 (by first | decide | omega) | exact st.c4 (by first | decide | omega) | exact st.c5 (by first | decide | omega) | exact st.c6 (by first | decide | omega) | exact st.c7 (by first | decide | omega) | exact st.c8 (by first | decide | omega)), trivial⟩ ?_
    rw [e]
    exact ⟨_, rfl, _, XO, hor, rfl, (backr st).drop⟩
  obtain ⟨c, rfl⟩ : ∃ n : Nat, c = n := ⟨c.toNat, by omega⟩
  have hc : c < 12 := by omega
  have e2 : writeP s (t : Nat) (c : Nat) x = if s.held t (8 + c) ≠ 16 then (s, 19) else if (s.tk t).n = 64 then (s, 20) else ({ s with tk := updN s.tk t (pushP (s.tk t) c (s.cells c)), cells := updN s.cells c x }, 0) := by rw [e1, if_neg (by omega), Int.toNat_natCast]
  by_cases hh : s.held t (8 + c) ≠ 16
  · have e : writeP s (t : Nat) (c : Nat) x = (s, 19) := e2.trans (if_pos hh)
    refine enter [.pointer (some ⟨B.bk, 0, none⟩), .int .i64 (t : Nat), .int .i64 (c : Nat), .int .u64 (x : Nat)] Tryz.func83 rfl Tryz.ntmps83 rfl ?_
    show WC _ _ _ 65 [] [(0, .pointer (some ⟨B.bk, 0, none⟩)), (1, .int .i64 (t : Nat)), (2, .int .i64 (c : Nat)), (3, .int .u64 (x : Nat))] _
    refine WC.seq fun K780 hK780 => ?_
    -- region 0
    refine WC.region ?_
    -- R0.0 8 := kernel.go:138 alloc
    refine WL.alloc (m := 3) st ty_zero34 rfl rfl rfl ?_
    intro b8 w st
    refine WL.fin hK780 (fun _ _ h => h) ?_
    refine WC.seq fun K781 hK781 => ?_
    refine WC.seq fun K782 hK782 => ?_
    -- region 1
    refine WC.region ?_
    -- R1.0 11 := kernel.go:139 move
    refine WL.v (by first | exact r_move (v := .pointer _) rfl | exact r_move rfl) rfl rfl rfl ?_
    -- R1.1 12 := kernel.go:139 move
    refine WL.v (by first | exact r_move (v := .int _ _) rfl | exact r_move rfl) rfl rfl rfl ?_
    -- R1.2 13 := kernel.go:139 call
    have st : KH w0 B s (zR b8 :: l) w := V.back (I := [_]) st
    refine WL.call (r_call ty_call100 rfl) rfl rfl rfl (caller_ok (t := t) st) ?_
    rintro _ w ⟨rfl, st⟩
    -- R1.3 9 := kernel.go:139 assign
    refine WL.v (by exact r_assign (v := .int .i64 0) (congrArg (Value.int .i64) hc1)) rfl rfl rfl ?_
    refine WL.fin hK782 (fun _ _ h => h) ?_
    refine WC.seq fun K783 hK783 => ?_
    -- region 2
    refine WC.region ?_
    -- R2.0 14 := kernel.go:139 move
    refine WL.v (by first | exact r_move (v := .int _ _) rfl | exact r_move rfl) rfl rfl rfl ?_
    -- R2.1 15 := kernel.go:139 binOp
    refine WL.v (by first | exact r_neq rfl rfl (decide_eq_true (by omega)) | exact r_neq rfl rfl (decide_eq_false (by omega)) | exact r_neq rfl rfl rfl) rfl rfl rfl ?_
    refine WL.fin hK783 (fun _ _ h => h) ?_
    refine WC.condF rfl rfl ?_
    refine WC.skipF hK781 (fun _ _ h => h) ?_
    refine WC.seq fun K784 hK784 => ?_
    refine WC.seq fun K785 hK785 => ?_
    -- region 4
    refine WC.region ?_
    -- R4.0 19 := kernel.go:142 move
    refine WL.v (by first | exact r_move (v := .int _ _) rfl | exact r_move rfl) rfl rfl rfl ?_
    -- R4.1 20 := kernel.go:142 binOp
    refine WL.v (by first | exact r_lss rfl rfl (decide_eq_true (by omega)) | exact r_lss rfl rfl (decide_eq_false (by omega)) | exact r_lss rfl rfl rfl) rfl rfl rfl ?_
    -- R4.2 21 := kernel.go:142 move
    refine WL.v (by first | exact r_move (v := .bool _) rfl | exact r_move rfl) rfl rfl rfl ?_
    -- R4.3 22 := kernel.go:142 move
    refine WL.v (by first | exact r_move (v := .int _ _) rfl | exact r_move rfl) rfl rfl rfl ?_
    -- R4.4 23 := kernel.go:142 binOp
    refine WL.v (by first | exact r_geq rfl rfl (decide_eq_true (by omega)) | exact r_geq rfl rfl (decide_eq_false (by omega)) | exact r_geq rfl rfl rfl) rfl rfl rfl ?_
    -- R4.5 24 := kernel.go:142 pick
    refine WL.v (by first | exact r_pickT (v := .bool _) rfl rfl | exact r_pickF (v := .bool _) rfl rfl) rfl rfl rfl ?_
    refine WL.fin hK785 (fun _ _ h => h) ?_
    refine WC.condF rfl rfl ?_
    refine WC.skipF hK784 (fun _ _ h => h) ?_
    refine WC.seq fun K786 hK786 => ?_
    refine WC.seq fun K787 hK787 => ?_
    -- region 6 (draws)
    obtain ⟨Y1, qv1, XQ1, tv1, ov1, V1, st⟩ := st.view
    refine WC.quietS st ty_mixed (by kernel_rfl) fun Kq hKq => ?_
    -- R6.0 27 := kernel.go:145 move
    refine QL.v (fun w st => by first | exact r_move (v := .pointer _) rfl | exact r_move rfl) rfl rfl rfl ?_
    -- R6.1 28 := kernel.go:145 nilCheck
    refine QL.v (fun w st => by exact r_nilCheck rfl) rfl rfl rfl ?_
    -- R6.2 29 := kernel.go:145 fieldAddr
    refine QL.v (fun w st => by exact r_field ty_fld120_1 rfl) rfl rfl rfl ?_
    -- R6.3 30 := kernel.go:145 load
    refine QL.v (fun w st => by exact r_load1 (v := .pointer (some ⟨B.br, 0, none⟩)) ty_one107 rfl (V1.cr st)) rfl rfl rfl ?_
    -- R6.4 31 := kernel.go:145 move
    refine QL.v (fun w st => by first | exact r_move (v := .int _ _) rfl | exact r_move rfl) rfl rfl rfl ?_
    -- R6.5 32 := kernel.go:145 move
    refine QL.v (fun w st => by first | exact r_move (v := .int _ _) rfl | exact r_move rfl) rfl rfl rfl ?_
    -- R6.6 33 := kernel.go:145 call
    refine QL.call (val := .int .i64 ((8 + c : Nat) : Int)) (fun w st => r_call ty_call48 rfl) rfl rfl rfl (fun w st => lockOf_ok (by omega) st) ?_
    -- R6.7 34 := kernel.go:145 call
    refine QL.call (val := .int .i64 (s.held t (8 + c) : Nat)) (fun w st => r_call ty_call104 rfl) rfl rfl rfl (fun w st => held_ok ht (by omega) V1.r st) ?_
    -- R6.8 35 := kernel.go:145 binOp
    refine QL.v (fun w st => by first | exact r_neq rfl rfl (decide_eq_true (by omega)) | exact r_neq rfl rfl (decide_eq_false (by omega)) | exact r_neq rfl rfl rfl) rfl rfl rfl ?_
    refine QL.wl hKq fun w st => ?_
    refine WL.fin hK787 (fun _ _ h => h) ?_
    refine WC.condT rfl rfl ?_
    refine WC.seq fun K788 hK788 => ?_
    -- region 7
    refine WC.region ?_
    -- R7.0 36 := kernel.go:146 move
    refine WL.v (by first | exact r_move (v := .pointer _) rfl | exact r_move rfl) rfl rfl rfl ?_
    -- R7.1 37 := kernel.go:146 call
    refine WL.call (r_call ty_call88 rfl) rfl rfl rfl (done_ok (V1.same st)) ?_
    rintro _ w ⟨ovr, XO, hor, rfl, st⟩
    obtain ⟨ar, cr, br, rfl, -, -, -, -⟩ := hor.form
    obtain ⟨Yr, st, backr⟩ := KH.out (st.perm (List.perm_append_comm_assoc XO [_] l))
    -- R7.2 None := kernel.go:146 store
    first | refine WL.storeW (vs := [_, _, _]) st ty_agg34 rfl rfl rfl rfl rfl rfl ?_ | refine WL.storeL (vs := [_, _, _]) st ty_agg34 rfl rfl rfl rfl (by first | decide | omega) rfl rfl ?_ | refine WL.storeW (vs := [_, _, _]) st.front1 ty_agg34 rfl rfl rfl rfl rfl rfl ?_ | refine WL.storeL (vs := [_, _, _]) st.front1 ty_agg34 rfl rfl rfl rfl (by first | decide | omega) rfl rfl ?_ | refine WL.storeW (vs := [_, _, _]) st.front2 ty_agg34 rfl rfl rfl rfl rfl rfl ?_ | refine WL.storeL (vs := [_, _, _]) st.front2 ty_agg34 rfl rfl rfl rfl (by first | decide | omega) rfl rfl ?_ | refine WL.storeW (vs := [_, _, _]) st.front3 ty_agg34 rfl rfl rfl rfl rfl rfl ?_ | refine WL.storeL (vs := [_, _, _]) st.front3 ty_agg34 rfl rfl rfl rfl (by first | decide | omega) rfl rfl ?_ | refine WL.storeW (vs := [_, _, _]) st.front4 ty_agg34 rfl rfl rfl rfl rfl rfl ?_ | refine WL.storeL (vs := [_, _, _]) st.front4 ty_agg34 rfl rfl rfl rfl (by first | decide | omega) rfl rfl ?_ | refine WL.storeW (vs := [_, _, _]) st.front5 ty_agg34 rfl rfl rfl rfl rfl rfl ?_ | refine WL.storeL (vs := [_, _, _]) st.front5 ty_agg34 rfl rfl rfl rfl (by first | decide | omega) rfl rfl ?_ | refine WL.storeW (vs := [_, _, _]) st.front6 ty_agg34 rfl rfl rfl rfl rfl rfl ?_ | refine WL.storeL (vs := [_, _, _]) st.front6 ty_agg34 rfl rfl rfl rfl (by first | decide | omega) rfl rfl ?_ | refine WL.storeW (vs := [_, _, _]) st.front7 ty_agg34 rfl rfl rfl rfl rfl rfl ?_ | refine WL.storeL (vs := [_, _, _]) st.front7 ty_agg34 rfl rfl rfl rfl (by first | decide | omega) rfl rfl ?_ | refine WL.storeW (vs := [_, _, _]) st.front8 ty_agg34 rfl rfl rfl rfl rfl rfl ?_ | refine WL.storeL (vs := [_, _, _]) st.front8 ty_agg34 rfl rfl rfl rfl (by first | decide | omega) rfl rfl ?_
    intro w st
    refine WL.fin hK788 (fun _ _ h => h) ?_
    refine WC.retC (vs := [_, _, _]) Tryz.results83 (fun _ _ h => h) rfl ty_agg34 rfl ⟨(by first | assumption | exact st.c0 (by first | decide | omega) | exact st.c1 (by first | decide | omega) | exact st.c2 (by first | decide | omega) | exact st.c3 (by first | decide | omega) | exact st.c4 (by first | decide | omega) | exact st.c5 (by first | decide | omega) | exact st.c6 (by first | decide | omega) | exact st.c7 (by first | decide | omega) | exact st.c8 (by first | decide | omega)), (by first | assumption | exact st.c0 (by first | decide | omega) | exact st.c1 (by first | decide | omega) | exact st.c2 (by first | decide | omega) | exact st.c3 (by first | decide | omega) | exact st.c4 (by first | decide | omega) | exact st.c5 (by first | decide | omega) | exact st.c6 (by first | decide | omega) | exact st.c7 (by first | decide | omega) | exact st.c8 (by first | decide | omega)), (by first | assumption | exact st.c0 (by first | decide | omega) | exact st.c1 (by first | decide | omega) | exact st.c2 (by first | decide | omega) | exact st.c3 (by first | decide | omega) | exact st.c4 (by first | decide | omega) | exact st.c5 (by first | decide | omega) | exact st.c6 (by first | decide | omega) | exact st.c7 (by first | decide | omega) | exact st.c8 (by first | decide | omega)), trivial⟩ ?_
    rw [e]
    exact ⟨_, rfl, _, XO, hor, rfl, (backr st).drop⟩
  have hh : s.held t (8 + c) = 16 := Classical.not_not.1 hh
  have e3 : writeP s (t : Nat) (c : Nat) x = if (s.tk t).n = 64 then (s, 20) else ({ s with tk := updN s.tk t (pushP (s.tk t) c (s.cells c)), cells := updN s.cells c x }, 0) := e2.trans (if_neg (fun h => h hh))
  have hn64 := hB.n t
  by_cases hn : (s.tk t).n = 64
  · have e : writeP s (t : Nat) (c : Nat) x = (s, 20) := e3.trans (if_pos hn)
    have hfu : ((s.tk t).n == 64) = true := by rw [hn]; rfl
    refine enter [.pointer (some ⟨B.bk, 0, none⟩), .int .i64 (t : Nat), .int .i64 (c : Nat), .int .u64 (x : Nat)] Tryz.func83 rfl Tryz.ntmps83 rfl ?_
    show WC _ _ _ 65 [] [(0, .pointer (some ⟨B.bk, 0, none⟩)), (1, .int .i64 (t : Nat)), (2, .int .i64 (c : Nat)), (3, .int .u64 (x : Nat))] _
    refine WC.seq fun K789 hK789 => ?_
    -- region 0
    refine WC.region ?_
    -- R0.0 8 := kernel.go:138 alloc
    refine WL.alloc (m := 3) st ty_zero34 rfl rfl rfl ?_
    intro b8 w st
    refine WL.fin hK789 (fun _ _ h => h) ?_
    refine WC.seq fun K790 hK790 => ?_
    refine WC.seq fun K791 hK791 => ?_
    -- region 1
    refine WC.region ?_
    -- R1.0 11 := kernel.go:139 move
    refine WL.v (by first | exact r_move (v := .pointer _) rfl | exact r_move rfl) rfl rfl rfl ?_
    -- R1.1 12 := kernel.go:139 move
    refine WL.v (by first | exact r_move (v := .int _ _) rfl | exact r_move rfl) rfl rfl rfl ?_
    -- R1.2 13 := kernel.go:139 call
    have st : KH w0 B s (zR b8 :: l) w := V.back (I := [_]) st
    refine WL.call (r_call ty_call100 rfl) rfl rfl rfl (caller_ok (t := t) st) ?_
    rintro _ w ⟨rfl, st⟩
    -- R1.3 9 := kernel.go:139 assign
    refine WL.v (by exact r_assign (v := .int .i64 0) (congrArg (Value.int .i64) hc1)) rfl rfl rfl ?_
    refine WL.fin hK791 (fun _ _ h => h) ?_
    refine WC.seq fun K792 hK792 => ?_
    -- region 2
    refine WC.region ?_
    -- R2.0 14 := kernel.go:139 move
    refine WL.v (by first | exact r_move (v := .int _ _) rfl | exact r_move rfl) rfl rfl rfl ?_
    -- R2.1 15 := kernel.go:139 binOp
    refine WL.v (by first | exact r_neq rfl rfl (decide_eq_true (by omega)) | exact r_neq rfl rfl (decide_eq_false (by omega)) | exact r_neq rfl rfl rfl) rfl rfl rfl ?_
    refine WL.fin hK792 (fun _ _ h => h) ?_
    refine WC.condF rfl rfl ?_
    refine WC.skipF hK790 (fun _ _ h => h) ?_
    refine WC.seq fun K793 hK793 => ?_
    refine WC.seq fun K794 hK794 => ?_
    -- region 4
    refine WC.region ?_
    -- R4.0 19 := kernel.go:142 move
    refine WL.v (by first | exact r_move (v := .int _ _) rfl | exact r_move rfl) rfl rfl rfl ?_
    -- R4.1 20 := kernel.go:142 binOp
    refine WL.v (by first | exact r_lss rfl rfl (decide_eq_true (by omega)) | exact r_lss rfl rfl (decide_eq_false (by omega)) | exact r_lss rfl rfl rfl) rfl rfl rfl ?_
    -- R4.2 21 := kernel.go:142 move
    refine WL.v (by first | exact r_move (v := .bool _) rfl | exact r_move rfl) rfl rfl rfl ?_
    -- R4.3 22 := kernel.go:142 move
    refine WL.v (by first | exact r_move (v := .int _ _) rfl | exact r_move rfl) rfl rfl rfl ?_
    -- R4.4 23 := kernel.go:142 binOp
    refine WL.v (by first | exact r_geq rfl rfl (decide_eq_true (by omega)) | exact r_geq rfl rfl (decide_eq_false (by omega)) | exact r_geq rfl rfl rfl) rfl rfl rfl ?_
    -- R4.5 24 := kernel.go:142 pick
    refine WL.v (by first | exact r_pickT (v := .bool _) rfl rfl | exact r_pickF (v := .bool _) rfl rfl) rfl rfl rfl ?_
    refine WL.fin hK794 (fun _ _ h => h) ?_
    refine WC.condF rfl rfl ?_
    refine WC.skipF hK793 (fun _ _ h => h) ?_
    refine WC.seq fun K795 hK795 => ?_
    refine WC.seq fun K796 hK796 => ?_
    -- region 6 (draws)
    obtain ⟨Y1, qv1, XQ1, tv1, ov1, V1, st⟩ := st.view
    refine WC.quietS st ty_mixed (by kernel_rfl) fun Kq hKq => ?_
    -- R6.0 27 := kernel.go:145 move
    refine QL.v (fun w st => by first | exact r_move (v := .pointer _) rfl | exact r_move rfl) rfl rfl rfl ?_
    -- R6.1 28 := kernel.go:145 nilCheck
    refine QL.v (fun w st => by exact r_nilCheck rfl) rfl rfl rfl ?_
    -- R6.2 29 := kernel.go:145 fieldAddr
    refine QL.v (fun w st => by exact r_field ty_fld120_1 rfl) rfl rfl rfl ?_
    -- R6.3 30 := kernel.go:145 load
    refine QL.v (fun w st => by exact r_load1 (v := .pointer (some ⟨B.br, 0, none⟩)) ty_one107 rfl (V1.cr st)) rfl rfl rfl ?_
    -- R6.4 31 := kernel.go:145 move
    refine QL.v (fun w st => by first | exact r_move (v := .int _ _) rfl | exact r_move rfl) rfl rfl rfl ?_
    -- R6.5 32 := kernel.go:145 move
    refine QL.v (fun w st => by first | exact r_move (v := .int _ _) rfl | exact r_move rfl) rfl rfl rfl ?_
    -- R6.6 33 := kernel.go:145 call
    refine QL.call (val := .int .i64 ((8 + c : Nat) : Int)) (fun w st => r_call ty_call48 rfl) rfl rfl rfl (fun w st => lockOf_ok (by omega) st) ?_
    -- R6.7 34 := kernel.go:145 call
    refine QL.call (val := .int .i64 (s.held t (8 + c) : Nat)) (fun w st => r_call ty_call104 rfl) rfl rfl rfl (fun w st => held_ok ht (by omega) V1.r st) ?_
    -- R6.8 35 := kernel.go:145 binOp
    refine QL.v (fun w st => by first | exact r_neq rfl rfl (decide_eq_true (by omega)) | exact r_neq rfl rfl (decide_eq_false (by omega)) | exact r_neq rfl rfl rfl) rfl rfl rfl ?_
    refine QL.wl hKq fun w st => ?_
    refine WL.fin hK796 (fun _ _ h => h) ?_
    refine WC.condF rfl rfl ?_
    refine WC.skipF hK795 (fun _ _ h => h) ?_
    refine WC.seq fun K797 hK797 => ?_
    -- region 8
    refine WC.region ?_
    -- R8.0 38 := kernel.go:148 move
    refine WL.v (by first | exact r_move (v := .pointer _) rfl | exact r_move rfl) rfl rfl rfl ?_
    -- R8.1 39 := kernel.go:148 move
    refine WL.v (by first | exact r_move (v := .int _ _) rfl | exact r_move rfl) rfl rfl rfl ?_
    -- R8.2 40 := kernel.go:148 nilCheck
    refine WL.v (by exact r_nilCheck rfl) rfl rfl rfl ?_
    -- R8.3 41 := kernel.go:148 fieldAddr
    refine WL.v (by exact r_field ty_fld120_3 rfl) rfl rfl rfl ?_
    -- R8.4 42 := kernel.go:148 indexAddr
    refine WL.v (by exact r_indexA ty_ar118 rfl rfl rfl (by omega)) rfl rfl rfl ?_
    -- R8.5 43 := kernel.go:148 fieldAddr
    refine WL.v (by exact r_field ty_fld117_6 rfl) rfl rfl rfl ?_
    -- R8.6 10 := kernel.go:148 assign
    refine WL.v (by first | exact r_assign (v := .pointer _) rfl | exact r_assign rfl) rfl rfl rfl ?_
    refine WL.fin hK797 (fun _ _ h => h) ?_
    refine WC.seq fun K798 hK798 => ?_
    refine WC.seq fun K799 hK799 => ?_
    -- region 9
    refine WC.region ?_
    -- R9.0 44 := kernel.go:149 move
    refine WL.v (by first | exact r_move (v := .pointer _) rfl | exact r_move rfl) rfl rfl rfl ?_
    -- R9.1 45 := kernel.go:149 call
    refine WL.call (r_call ty_call108 rfl) rfl rfl rfl (full_ok (a := 0 + 3 + t * 135 + 6) V1.k ht (by omega) st) ?_
    rintro _ w ⟨he, st⟩
    rw [hfu] at he
    subst he
    refine WL.fin hK799 (fun _ _ h => h) ?_
    refine WC.condT rfl rfl ?_
    refine WC.seq fun K800 hK800 => ?_
    -- region 10
    refine WC.region ?_
    -- R10.0 46 := kernel.go:150 move
    refine WL.v (by first | exact r_move (v := .pointer _) rfl | exact r_move rfl) rfl rfl rfl ?_
    -- R10.1 47 := kernel.go:150 call
    refine WL.call (r_call ty_call88 rfl) rfl rfl rfl (done_ok (V1.same st)) ?_
    rintro _ w ⟨ovr, XO, hor, rfl, st⟩
    obtain ⟨ar, cr, br, rfl, -, -, -, -⟩ := hor.form
    obtain ⟨Yr, st, backr⟩ := KH.out (st.perm (List.perm_append_comm_assoc XO [_] l))
    -- R10.2 None := kernel.go:150 store
    first | refine WL.storeW (vs := [_, _, _]) st ty_agg34 rfl rfl rfl rfl rfl rfl ?_ | refine WL.storeL (vs := [_, _, _]) st ty_agg34 rfl rfl rfl rfl (by first | decide | omega) rfl rfl ?_ | refine WL.storeW (vs := [_, _, _]) st.front1 ty_agg34 rfl rfl rfl rfl rfl rfl ?_ | refine WL.storeL (vs := [_, _, _]) st.front1 ty_agg34 rfl rfl rfl rfl (by first | decide | omega) rfl rfl ?_ | refine WL.storeW (vs := [_, _, _]) st.front2 ty_agg34 rfl rfl rfl rfl rfl rfl ?_ | refine WL.storeL (vs := [_, _, _]) st.front2 ty_agg34 rfl rfl rfl rfl (by first | decide | omega) rfl rfl ?_ | refine WL.storeW (vs := [_, _, _]) st.front3 ty_agg34 rfl rfl rfl rfl rfl rfl ?_ | refine WL.storeL (vs := [_, _, _]) st.front3 ty_agg34 rfl rfl rfl rfl (by first | decide | omega) rfl rfl ?_ | refine WL.storeW (vs := [_, _, _]) st.front4 ty_agg34 rfl rfl rfl rfl rfl rfl ?_ | refine WL.storeL (vs := [_, _, _]) st.front4 ty_agg34 rfl rfl rfl rfl (by first | decide | omega) rfl rfl ?_ | refine WL.storeW (vs := [_, _, _]) st.front5 ty_agg34 rfl rfl rfl rfl rfl rfl ?_ | refine WL.storeL (vs := [_, _, _]) st.front5 ty_agg34 rfl rfl rfl rfl (by first | decide | omega) rfl rfl ?_ | refine WL.storeW (vs := [_, _, _]) st.front6 ty_agg34 rfl rfl rfl rfl rfl rfl ?_ | refine WL.storeL (vs := [_, _, _]) st.front6 ty_agg34 rfl rfl rfl rfl (by first | decide | omega) rfl rfl ?_ | refine WL.storeW (vs := [_, _, _]) st.front7 ty_agg34 rfl rfl rfl rfl rfl rfl ?_ | refine WL.storeL (vs := [_, _, _]) st.front7 ty_agg34 rfl rfl rfl rfl (by first | decide | omega) rfl rfl ?_ | refine WL.storeW (vs := [_, _, _]) st.front8 ty_agg34 rfl rfl rfl rfl rfl rfl ?_ | refine WL.storeL (vs := [_, _, _]) st.front8 ty_agg34 rfl rfl rfl rfl (by first | decide | omega) rfl rfl ?_
    intro w st
    refine WL.fin hK800 (fun _ _ h => h) ?_
    refine WC.retC (vs := [_, _, _]) Tryz.results83 (fun _ _ h => h) rfl ty_agg34 rfl ⟨(by first | assumption | exact st.c0 (by first | decide | omega) | exact st.c1 (by first | decide | omega) | exact st.c2 (by first | decide | omega) | exact st.c3 (by first | decide | omega) | exact st.c4 (by first | decide | omega) | exact st.c5 (by first | decide | omega) | exact st.c6 (by first | decide | omega) | exact st.c7 (by first | decide | omega) | exact st.c8 (by first | decide | omega)), (by first | assumption | exact st.c0 (by first | decide | omega) | exact st.c1 (by first | decide | omega) | exact st.c2 (by first | decide | omega) | exact st.c3 (by first | decide | omega) | exact st.c4 (by first | decide | omega) | exact st.c5 (by first | decide | omega) | exact st.c6 (by first | decide | omega) | exact st.c7 (by first | decide | omega) | exact st.c8 (by first | decide | omega)), (by first | assumption | exact st.c0 (by first | decide | omega) | exact st.c1 (by first | decide | omega) | exact st.c2 (by first | decide | omega) | exact st.c3 (by first | decide | omega) | exact st.c4 (by first | decide | omega) | exact st.c5 (by first | decide | omega) | exact st.c6 (by first | decide | omega) | exact st.c7 (by first | decide | omega) | exact st.c8 (by first | decide | omega)), trivial⟩ ?_
    rw [e]
    exact ⟨_, rfl, _, XO, hor, rfl, (backr st).drop⟩
  have e : writeP s (t : Nat) (c : Nat) x = ({ s with tk := updN s.tk t (pushP (s.tk t) c (s.cells c)), cells := updN s.cells c x }, 0) := e3.trans (if_neg hn)
  have hfu : ((s.tk t).n == 64) = false := by simpa using hn
  refine enter [.pointer (some ⟨B.bk, 0, none⟩), .int .i64 (t : Nat), .int .i64 (c : Nat), .int .u64 (x : Nat)] Tryz.func83 rfl Tryz.ntmps83 rfl ?_
  show WC _ _ _ 65 [] [(0, .pointer (some ⟨B.bk, 0, none⟩)), (1, .int .i64 (t : Nat)), (2, .int .i64 (c : Nat)), (3, .int .u64 (x : Nat))] _
  refine WC.seq fun K801 hK801 => ?_
  -- region 0
  refine WC.region ?_
  -- R0.0 8 := kernel.go:138 alloc
  refine WL.alloc (m := 3) st ty_zero34 rfl rfl rfl ?_
  intro b8 w st
  refine WL.fin hK801 (fun _ _ h => h) ?_
  refine WC.seq fun K802 hK802 => ?_
  refine WC.seq fun K803 hK803 => ?_
  -- region 1
  refine WC.region ?_
  -- R1.0 11 := kernel.go:139 move
  refine WL.v (by first | exact r_move (v := .pointer _) rfl | exact r_move rfl) rfl rfl rfl ?_
  -- R1.1 12 := kernel.go:139 move
  refine WL.v (by first | exact r_move (v := .int _ _) rfl | exact r_move rfl) rfl rfl rfl ?_
  -- R1.2 13 := kernel.go:139 call
  have st : KH w0 B s (zR b8 :: l) w := V.back (I := [_]) st
  refine WL.call (r_call ty_call100 rfl) rfl rfl rfl (caller_ok (t := t) st) ?_
  rintro _ w ⟨rfl, st⟩
  -- R1.3 9 := kernel.go:139 assign
  refine WL.v (by exact r_assign (v := .int .i64 0) (congrArg (Value.int .i64) hc1)) rfl rfl rfl ?_
  refine WL.fin hK803 (fun _ _ h => h) ?_
  refine WC.seq fun K804 hK804 => ?_
  -- region 2
  refine WC.region ?_
  -- R2.0 14 := kernel.go:139 move
  refine WL.v (by first | exact r_move (v := .int _ _) rfl | exact r_move rfl) rfl rfl rfl ?_
  -- R2.1 15 := kernel.go:139 binOp
  refine WL.v (by first | exact r_neq rfl rfl (decide_eq_true (by omega)) | exact r_neq rfl rfl (decide_eq_false (by omega)) | exact r_neq rfl rfl rfl) rfl rfl rfl ?_
  refine WL.fin hK804 (fun _ _ h => h) ?_
  refine WC.condF rfl rfl ?_
  refine WC.skipF hK802 (fun _ _ h => h) ?_
  refine WC.seq fun K805 hK805 => ?_
  refine WC.seq fun K806 hK806 => ?_
  -- region 4
  refine WC.region ?_
  -- R4.0 19 := kernel.go:142 move
  refine WL.v (by first | exact r_move (v := .int _ _) rfl | exact r_move rfl) rfl rfl rfl ?_
  -- R4.1 20 := kernel.go:142 binOp
  refine WL.v (by first | exact r_lss rfl rfl (decide_eq_true (by omega)) | exact r_lss rfl rfl (decide_eq_false (by omega)) | exact r_lss rfl rfl rfl) rfl rfl rfl ?_
  -- R4.2 21 := kernel.go:142 move
  refine WL.v (by first | exact r_move (v := .bool _) rfl | exact r_move rfl) rfl rfl rfl ?_
  -- R4.3 22 := kernel.go:142 move
  refine WL.v (by first | exact r_move (v := .int _ _) rfl | exact r_move rfl) rfl rfl rfl ?_
  -- R4.4 23 := kernel.go:142 binOp
  refine WL.v (by first | exact r_geq rfl rfl (decide_eq_true (by omega)) | exact r_geq rfl rfl (decide_eq_false (by omega)) | exact r_geq rfl rfl rfl) rfl rfl rfl ?_
  -- R4.5 24 := kernel.go:142 pick
  refine WL.v (by first | exact r_pickT (v := .bool _) rfl rfl | exact r_pickF (v := .bool _) rfl rfl) rfl rfl rfl ?_
  refine WL.fin hK806 (fun _ _ h => h) ?_
  refine WC.condF rfl rfl ?_
  refine WC.skipF hK805 (fun _ _ h => h) ?_
  refine WC.seq fun K807 hK807 => ?_
  refine WC.seq fun K808 hK808 => ?_
  -- region 6 (draws)
  obtain ⟨Y1, qv1, XQ1, tv1, ov1, V1, st⟩ := st.view
  refine WC.quietS st ty_mixed (by kernel_rfl) fun Kq hKq => ?_
  -- R6.0 27 := kernel.go:145 move
  refine QL.v (fun w st => by first | exact r_move (v := .pointer _) rfl | exact r_move rfl) rfl rfl rfl ?_
  -- R6.1 28 := kernel.go:145 nilCheck
  refine QL.v (fun w st => by exact r_nilCheck rfl) rfl rfl rfl ?_
  -- R6.2 29 := kernel.go:145 fieldAddr
  refine QL.v (fun w st => by exact r_field ty_fld120_1 rfl) rfl rfl rfl ?_
  -- R6.3 30 := kernel.go:145 load
  refine QL.v (fun w st => by exact r_load1 (v := .pointer (some ⟨B.br, 0, none⟩)) ty_one107 rfl (V1.cr st)) rfl rfl rfl ?_
  -- R6.4 31 := kernel.go:145 move
  refine QL.v (fun w st => by first | exact r_move (v := .int _ _) rfl | exact r_move rfl) rfl rfl rfl ?_
  -- R6.5 32 := kernel.go:145 move
  refine QL.v (fun w st => by first | exact r_move (v := .int _ _) rfl | exact r_move rfl) rfl rfl rfl ?_
  -- R6.6 33 := kernel.go:145 call
  refine QL.call (val := .int .i64 ((8 + c : Nat) : Int)) (fun w st => r_call ty_call48 rfl) rfl rfl rfl (fun w st => lockOf_ok (by omega) st) ?_
  -- R6.7 34 := kernel.go:145 call
  refine QL.call (val := .int .i64 (s.held t (8 + c) : Nat)) (fun w st => r_call ty_call104 rfl) rfl rfl rfl (fun w st => held_ok ht (by omega) V1.r st) ?_
  -- R6.8 35 := kernel.go:145 binOp
  refine QL.v (fun w st => by first | exact r_neq rfl rfl (decide_eq_true (by omega)) | exact r_neq rfl rfl (decide_eq_false (by omega)) | exact r_neq rfl rfl rfl) rfl rfl rfl ?_
  refine QL.wl hKq fun w st => ?_
  refine WL.fin hK808 (fun _ _ h => h) ?_
  refine WC.condF rfl rfl ?_
  refine WC.skipF hK807 (fun _ _ h => h) ?_
  refine WC.seq fun K809 hK809 => ?_
  -- region 8
  refine WC.region ?_
  -- R8.0 38 := kernel.go:148 move
  refine WL.v (by first | exact r_move (v := .pointer _) rfl | exact r_move rfl) rfl rfl rfl ?_
  -- R8.1 39 := kernel.go:148 move
  refine WL.v (by first | exact r_move (v := .int _ _) rfl | exact r_move rfl) rfl rfl rfl ?_
  -- R8.2 40 := kernel.go:148 nilCheck
  refine WL.v (by exact r_nilCheck rfl) rfl rfl rfl ?_
  -- R8.3 41 := kernel.go:148 fieldAddr
  refine WL.v (by exact r_field ty_fld120_3 rfl) rfl rfl rfl ?_
  -- R8.4 42 := kernel.go:148 indexAddr
  refine WL.v (by exact r_indexA ty_ar118 rfl rfl rfl (by omega)) rfl rfl rfl ?_
  -- R8.5 43 := kernel.go:148 fieldAddr
  refine WL.v (by exact r_field ty_fld117_6 rfl) rfl rfl rfl ?_
  -- R8.6 10 := kernel.go:148 assign
  refine WL.v (by first | exact r_assign (v := .pointer _) rfl | exact r_assign rfl) rfl rfl rfl ?_
  refine WL.fin hK809 (fun _ _ h => h) ?_
  refine WC.seq fun K810 hK810 => ?_
  refine WC.seq fun K811 hK811 => ?_
  -- region 9
  refine WC.region ?_
  -- R9.0 44 := kernel.go:149 move
  refine WL.v (by first | exact r_move (v := .pointer _) rfl | exact r_move rfl) rfl rfl rfl ?_
  -- R9.1 45 := kernel.go:149 call
  refine WL.call (r_call ty_call108 rfl) rfl rfl rfl (full_ok (a := 0 + 3 + t * 135 + 6) V1.k ht (by omega) st) ?_
  rintro _ w ⟨he, st⟩
  rw [hfu] at he
  subst he
  refine WL.fin hK811 (fun _ _ h => h) ?_
  refine WC.condF rfl rfl ?_
  refine WC.skipF hK810 (fun _ _ h => h) ?_
  refine WC.seq fun K812 hK812 => ?_
  -- region 11
  obtain ⟨ov2, Y2, st, back2⟩ := (V1.same st).ker
  refine WC.region ?_
  -- R11.0 48 := kernel.go:152 move
  refine WL.v (by first | exact r_move (v := .pointer _) rfl | exact r_move rfl) rfl rfl rfl ?_
  -- R11.1 49 := kernel.go:152 move
  refine WL.v (by first | exact r_move (v := .int _ _) rfl | exact r_move rfl) rfl rfl rfl ?_
  -- R11.2 50 := kernel.go:152 move
  refine WL.v (by first | exact r_move (v := .pointer _) rfl | exact r_move rfl) rfl rfl rfl ?_
  -- R11.3 51 := kernel.go:152 move
  refine WL.v (by first | exact r_move (v := .int _ _) rfl | exact r_move rfl) rfl rfl rfl ?_
  -- R11.4 52 := kernel.go:152 nilCheck
  refine WL.v (by exact r_nilCheck rfl) rfl rfl rfl ?_
  -- R11.5 53 := kernel.go:152 fieldAddr
  refine WL.v (by exact r_field ty_fld120_4 rfl) rfl rfl rfl ?_
  -- R11.6 54 := kernel.go:152 indexAddr
  refine WL.v (by exact r_indexA ty_ar48 rfl rfl rfl (by omega)) rfl rfl rfl ?_
  -- R11.7 55 := kernel.go:152 load
  refine WL.v (by exact r_load1 (v := .int .u64 (s.cells c : Nat)) ty_one26 rfl (c_cell List.mem_cons_self hc (by omega) st)) rfl rfl rfl ?_
  -- R11.8 56 := kernel.go:152 call
  refine WL.call (r_call ty_call109 rfl) rfl rfl rfl (push_ok (a := 0 + 3 + t * 135 + 6) (c := c) (old := s.cells c) ht (by omega) (by omega) st) ?_
  rintro _ w ⟨rfl, st⟩
  refine WL.fin hK812 (fun _ _ h => h) ?_
  refine WC.seq fun K813 hK813 => ?_
  -- region 12
  refine WC.region ?_
  -- R12.0 57 := kernel.go:153 move
  refine WL.v (by first | exact r_move (v := .pointer _) rfl | exact r_move rfl) rfl rfl rfl ?_
  -- R12.1 58 := kernel.go:153 move
  refine WL.v (by first | exact r_move (v := .int _ _) rfl | exact r_move rfl) rfl rfl rfl ?_
  -- R12.2 59 := kernel.go:153 move
  refine WL.v (by first | exact r_move (v := .int _ _) rfl | exact r_move rfl) rfl rfl rfl ?_
  -- R12.3 60 := kernel.go:153 nilCheck
  refine WL.v (by exact r_nilCheck rfl) rfl rfl rfl ?_
  -- R12.4 61 := kernel.go:153 fieldAddr
  refine WL.v (by exact r_field ty_fld120_4 rfl) rfl rfl rfl ?_
  -- R12.5 62 := kernel.go:153 indexAddr
  refine WL.v (by exact r_indexA ty_ar48 rfl rfl rfl (by omega)) rfl rfl rfl ?_
  -- R12.6 None := kernel.go:153 store
  refine WL.store (v := .int .u64 (x : Nat)) st ty_one26 rfl rfl rfl (by omega) rfl rfl ?_
  intro w st
  have st := back2 (stE (kF_setC (x := x) hc) st)
  refine WL.fin hK813 (fun _ _ h => h) ?_
  refine WC.seq fun K814 hK814 => ?_
  -- region 13
  refine WC.region ?_
  -- R13.0 63 := kernel.go:154 move
  refine WL.v (by first | exact r_move (v := .pointer _) rfl | exact r_move rfl) rfl rfl rfl ?_
  -- R13.1 64 := kernel.go:154 call
  refine WL.call (r_call ty_call88 rfl) rfl rfl rfl (done_ok st) ?_
  rintro _ w ⟨ovr, XO, hor, rfl, st⟩
  obtain ⟨ar, cr, br, rfl, -, -, -, -⟩ := hor.form
  obtain ⟨Yr, st, backr⟩ := KH.out (st.perm (List.perm_append_comm_assoc XO [_] l))
  -- R13.2 None := kernel.go:154 store
  first | refine WL.storeW (vs := [_, _, _]) st ty_agg34 rfl rfl rfl rfl rfl rfl ?_ | refine WL.storeL (vs := [_, _, _]) st ty_agg34 rfl rfl rfl rfl (by first | decide | omega) rfl rfl ?_ | refine WL.storeW (vs := [_, _, _]) st.front1 ty_agg34 rfl rfl rfl rfl rfl rfl ?_ | refine WL.storeL (vs := [_, _, _]) st.front1 ty_agg34 rfl rfl rfl rfl (by first | decide | omega) rfl rfl ?_ | refine WL.storeW (vs := [_, _, _]) st.front2 ty_agg34 rfl rfl rfl rfl rfl rfl ?_ | refine WL.storeL (vs := [_, _, _]) st.front2 ty_agg34 rfl rfl rfl rfl (by first | decide | omega) rfl rfl ?_ | refine WL.storeW (vs := [_, _, _]) st.front3 ty_agg34 rfl rfl rfl rfl rfl rfl ?_ | refine WL.storeL (vs := [_, _, _]) st.front3 ty_agg34 rfl rfl rfl rfl (by first | decide | omega) rfl rfl ?_ | refine WL.storeW (vs := [_, _, _]) st.front4 ty_agg34 rfl rfl rfl rfl rfl rfl ?_ | refine WL.storeL (vs := [_, _, _]) st.front4 ty_agg34 rfl rfl rfl rfl (by first | decide | omega) rfl rfl ?_ | refine WL.storeW (vs := [_, _, _]) st.front5 ty_agg34 rfl rfl rfl rfl rfl rfl ?_ | refine WL.storeL (vs := [_, _, _]) st.front5 ty_agg34 rfl rfl rfl rfl (by first | decide | omega) rfl rfl ?_ | refine WL.storeW (vs := [_, _, _]) st.front6 ty_agg34 rfl rfl rfl rfl rfl rfl ?_ | refine WL.storeL (vs := [_, _, _]) st.front6 ty_agg34 rfl rfl rfl rfl (by first | decide | omega) rfl rfl ?_ | refine WL.storeW (vs := [_, _, _]) st.front7 ty_agg34 rfl rfl rfl rfl rfl rfl ?_ | refine WL.storeL (vs := [_, _, _]) st.front7 ty_agg34 rfl rfl rfl rfl (by first | decide | omega) rfl rfl ?_ | refine WL.storeW (vs := [_, _, _]) st.front8 ty_agg34 rfl rfl rfl rfl rfl rfl ?_ | refine WL.storeL (vs := [_, _, _]) st.front8 ty_agg34 rfl rfl rfl rfl (by first | decide | omega) rfl rfl ?_
  intro w st
  refine WL.fin hK814 (fun _ _ h => h) ?_
  refine WC.retC (vs := [_, _, _]) Tryz.results83 (fun _ _ h => h) rfl ty_agg34 rfl ⟨(by first | assumption | exact st.c0 (by first | decide | omega) | exact st.c1 (by first | decide | omega) | exact st.c2 (by first | decide | omega) | exact st.c3 (by first | decide | omega) | exact st.c4 (by first | decide | omega) | exact st.c5 (by first | decide | omega) | exact st.c6 (by first | decide | omega) | exact st.c7 (by first | decide | omega) | exact st.c8 (by first | decide | omega)), (by first | assumption | exact st.c0 (by first | decide | omega) | exact st.c1 (by first | decide | omega) | exact st.c2 (by first | decide | omega) | exact st.c3 (by first | decide | omega) | exact st.c4 (by first | decide | omega) | exact st.c5 (by first | decide | omega) | exact st.c6 (by first | decide | omega) | exact st.c7 (by first | decide | omega) | exact st.c8 (by first | decide | omega)), (by first | assumption | exact st.c0 (by first | decide | omega) | exact st.c1 (by first | decide | omega) | exact st.c2 (by first | decide | omega) | exact st.c3 (by first | decide | omega) | exact st.c4 (by first | decide | omega) | exact st.c5 (by first | decide | omega) | exact st.c6 (by first | decide | omega) | exact st.c7 (by first | decide | omega) | exact st.c8 (by first | decide | omega)), trivial⟩ ?_
  rw [e]
  exact ⟨_, rfl, _, XO, hor, rfl, (backr st).drop⟩
end Go.Proofs.Qxb6500834aGreatDoor

