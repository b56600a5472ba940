import Derived.Test.Qxb6500834aGreatDoorK25
set_option linter.unusedVariables false
set_option linter.unusedSimpArgs false
set_option maxRecDepth 20000
namespace Go.Proofs.Qxb6500834aGreatDoor
open Go.RowKit Go.E1 Go.Kern
variable {w0 : World} {L L' l I J K K' X Y : List HI} {w : World} {s : KS} {B : KA} {t r N : Nat}


def releaseP (s : KS) (t r : Int) : KS × Int :=
  if callerP s t ≠ 0 then (s, callerP s t)
  else if r < 0 ∨ 20 ≤ r then (s, 13)
  else if s.held t.toNat r.toNat = 0 then (s, 16)
  else if 8 ≤ r ∧ touchesP (s.tk t.toNat) (r.toNat - 8) = true then (s, 17)
  else (wakeP { s with held := upd2 s.held t.toNat r.toNat 0 }, 0)
theorem KB.held' {held' : Nat → Nat → Nat} (h : KB N s) (hh : ∀ t r, held' t r ≤ 16) : KB N { s with held := held' } := ⟨hh, h.claim, h.qt, h.n, h.ec, h.tt, h.td, h.ta, h.tn, h.nn⟩
set_option maxHeartbeats 2000000 in
theorem release_ok {t r : Int} (hB : KB N s) (hN : N ≤ 1000000) (st : KH w0 B s l w) :
    Calls Tryz.prog 82 #[.pointer (some ⟨B.bk, 0, none⟩), .int .i64 t, .int .i64 r] w (Ret fun v w' => RK w0 B (releaseP s t r).1 (releaseP s t r).2 (-1) l v w') := by
  obtain ⟨Y, qv, XQ, tv, ov, V, st⟩ := st.view
  by_cases hc1 : callerP s t ≠ 0
  · have e : releaseP s t r = (s, callerP s t) := if_pos hc1
    refine enter [.pointer (some ⟨B.bk, 0, none⟩), .int .i64 t, .int .i64 r] Tryz.func82 rfl Tryz.ntmps82 rfl ?_
    show WC _ _ _ 60 [] [(0, .pointer (some ⟨B.bk, 0, none⟩)), (1, .int .i64 t), (2, .int .i64 r)] _
    refine WC.seq fun K815 hK815 => ?_
    -- region 0
    refine WC.region ?_
    -- R0.0 6 := kernel.go:118 alloc
    refine WL.alloc (m := 3) st ty_zero34 rfl rfl rfl ?_
    intro b6 w st
    refine WL.fin hK815 (fun _ _ h => h) ?_
    refine WC.seq fun K816 hK816 => ?_
    refine WC.seq fun K817 hK817 => ?_
    -- region 1
    refine WC.region ?_
    -- R1.0 8 := kernel.go:119 move
    refine WL.v (by first | exact r_move (v := .pointer _) rfl | exact r_move rfl) rfl rfl rfl ?_
    -- R1.1 9 := kernel.go:119 move
    refine WL.v (by first | exact r_move (v := .int _ _) rfl | exact r_move rfl) rfl rfl rfl ?_
    -- R1.2 10 := kernel.go:119 call
    have st : KH w0 B s (zR b6 :: l) w := V.back (I := [_]) st
    refine WL.call (r_call ty_call100 rfl) rfl rfl rfl (caller_ok (t := t) st) ?_
    rintro _ w ⟨rfl, st⟩
    -- R1.3 7 := kernel.go:119 assign
    refine WL.v (by first | exact r_assign (v := .int _ _) rfl | exact r_assign rfl) rfl rfl rfl ?_
    refine WL.fin hK817 (fun _ _ h => h) ?_
    refine WC.seq fun K818 hK818 => ?_
    -- region 2
    refine WC.region ?_
    -- R2.0 11 := kernel.go:119 move
    refine WL.v (by first | exact r_move (v := .int _ _) rfl | exact r_move rfl) rfl rfl rfl ?_
    -- R2.1 12 := kernel.go:119 binOp
    refine WL.v (by first | exact r_neq rfl rfl (decide_eq_true (by omega)) | exact r_neq rfl rfl (decide_eq_false (by omega)) | exact r_neq rfl rfl rfl) rfl rfl rfl ?_
    refine WL.fin hK818 (fun _ _ h => h) ?_
    refine WC.condT rfl rfl ?_
    refine WC.seq fun K819 hK819 => ?_
    -- region 3
    refine WC.region ?_
    -- R3.0 13 := kernel.go:120 move
    refine WL.v (by first | exact r_move (v := .pointer _) rfl | exact r_move rfl) rfl rfl rfl ?_
    -- R3.1 14 := kernel.go:120 move
    refine WL.v (by first | exact r_move (v := .int _ _) rfl | exact r_move rfl) rfl rfl rfl ?_
    -- R3.2 15 := kernel.go:120 call
    refine WL.call (r_call ty_call88 rfl) rfl rfl rfl (done_ok st) ?_
    rintro _ w ⟨ovr, XO, hor, rfl, st⟩
    obtain ⟨ar, cr, br, rfl, -, -, -, -⟩ := hor.form
    obtain ⟨Yr, st, backr⟩ := KH.out (st.perm (List.perm_append_comm_assoc XO [_] l))
    -- R3.3 None := kernel.go:120 store
    first | refine WL.storeW (vs := [_, _, _]) st ty_agg34 rfl rfl rfl rfl rfl rfl ?_ | refine WL.storeL (vs := [_, _, _]) st ty_agg34 rfl rfl rfl rfl (by first | decide | omega) rfl rfl ?_ | refine WL.storeW (vs := [_, _, _]) st.front1 ty_agg34 rfl rfl rfl rfl rfl rfl ?_ | refine WL.storeL (vs := [_, _, _]) st.front1 ty_agg34 rfl rfl rfl rfl (by first | decide | omega) rfl rfl ?_ | refine WL.storeW (vs := [_, _, _]) st.front2 ty_agg34 rfl rfl rfl rfl rfl rfl ?_ | refine WL.storeL (vs := [_, _, _]) st.front2 ty_agg34 rfl rfl rfl rfl (by first | decide | omega) rfl rfl ?_ | refine WL.storeW (vs := [_, _, _]) st.front3 ty_agg34 rfl rfl rfl rfl rfl rfl ?_ | refine WL.storeL (vs := [_, _, _]) st.front3 ty_agg34 rfl rfl rfl rfl (by first | decide | omega) rfl rfl ?_ | refine WL.storeW (vs := [_, _, _]) st.front4 ty_agg34 rfl rfl rfl rfl rfl rfl ?_ | refine WL.storeL (vs := [_, _, _]) st.front4 ty_agg34 rfl rfl rfl rfl (by first | decide | omega) rfl rfl ?_ | refine WL.storeW (vs := [_, _, _]) st.front5 ty_agg34 rfl rfl rfl rfl rfl rfl ?_ | refine WL.storeL (vs := [_, _, _]) st.front5 ty_agg34 rfl rfl rfl rfl (by first | decide | omega) rfl rfl ?_ | refine WL.storeW (vs := [_, _, _]) st.front6 ty_agg34 rfl rfl rfl rfl rfl rfl ?_ | refine WL.storeL (vs := [_, _, _]) st.front6 ty_agg34 rfl rfl rfl rfl (by first | decide | omega) rfl rfl ?_ | refine WL.storeW (vs := [_, _, _]) st.front7 ty_agg34 rfl rfl rfl rfl rfl rfl ?_ | refine WL.storeL (vs := [_, _, _]) st.front7 ty_agg34 rfl rfl rfl rfl (by first | decide | omega) rfl rfl ?_ | refine WL.storeW (vs := [_, _, _]) st.front8 ty_agg34 rfl rfl rfl rfl rfl rfl ?_ | refine WL.storeL (vs := [_, _, _]) st.front8 ty_agg34 rfl rfl rfl rfl (by first | decide | omega) rfl rfl ?_
    intro w st
    refine WL.fin hK819 (fun _ _ h => h) ?_
    refine WC.retC (vs := [_, _, _]) Tryz.results82 (fun _ _ h => h) rfl ty_agg34 rfl ⟨(by first | assumption | exact st.c0 (by first | decide | omega) | exact st.c1 (by first | decide | omega) | exact st.c2 (by first | decide | omega) | exact st.c3 (by first | decide | omega) | exact st.c4 (by first | decide | omega) | exact st.c5 (by first | decide | omega) | exact st.c6 (by first | decide | omega) | exact st.c7 (by first | decide | omega) | exact st.c8 (by first | decide | omega)), (by first | assumption | exact st.c0 (by first | decide | omega) | exact st.c1 (by first | decide | omega) | exact st.c2 (by first | decide | omega) | exact st.c3 (by first | decide | omega) | exact st.c4 (by first | decide | omega) | exact st.c5 (by first | decide | omega) | exact st.c6 (by first | decide | omega) | exact st.c7 (by first | decide | omega) | exact st.c8 (by first | decide | omega)), (by first | assumption | exact st.c0 (by first | decide | omega) | exact st.c1 (by first | decide | omega) | exact st.c2 (by first | decide | omega) | exact st.c3 (by first | decide | omega) | exact st.c4 (by first | decide | omega) | exact st.c5 (by first | decide | omega) | exact st.c6 (by first | decide | omega) | exact st.c7 (by first | decide | omega) | exact st.c8 (by first | decide | omega)), trivial⟩ ?_
    rw [e]
    exact ⟨_, rfl, _, XO, hor, rfl, (backr st).drop⟩
  have hc1 : callerP s t = 0 := Classical.not_not.1 hc1
  obtain ⟨ht0, ht16⟩ := callerP_ok hc1
  obtain ⟨t, rfl⟩ : ∃ n : Nat, t = n := ⟨t.toNat, by omega⟩
  have ht : t < 16 := by omega
  have e1 : releaseP s (t : Nat) r = if r < 0 ∨ 20 ≤ r then (s, 13) else if s.held t r.toNat = 0 then (s, 16) else if 8 ≤ r ∧ touchesP (s.tk t) (r.toNat - 8) = true then (s, 17) else (wakeP { s with held := upd2 s.held t r.toNat 0 }, 0) := by unfold releaseP; rw [if_neg (fun h => h hc1), Int.toNat_natCast]
  by_cases hc0 : r < 0
  · have e : releaseP s (t : Nat) r = (s, 13) := e1.trans (if_pos (.inl hc0))
    refine enter [.pointer (some ⟨B.bk, 0, none⟩), .int .i64 (t : Nat), .int .i64 r] Tryz.func82 rfl Tryz.ntmps82 rfl ?_
    show WC _ _ _ 60 [] [(0, .pointer (some ⟨B.bk, 0, none⟩)), (1, .int .i64 (t : Nat)), (2, .int .i64 r)] _
    refine WC.seq fun K820 hK820 => ?_
    -- region 0
    refine WC.region ?_
    -- R0.0 6 := kernel.go:118 alloc
    refine WL.alloc (m := 3) st ty_zero34 rfl rfl rfl ?_
    intro b6 w st
    refine WL.fin hK820 (fun _ _ h => h) ?_
    refine WC.seq fun K821 hK821 => ?_
    refine WC.seq fun K822 hK822 => ?_
    -- region 1
    refine WC.region ?_
    -- R1.0 8 := kernel.go:119 move
    refine WL.v (by first | exact r_move (v := .pointer _) rfl | exact r_move rfl) rfl rfl rfl ?_
    -- R1.1 9 := kernel.go:119 move
    refine WL.v (by first | exact r_move (v := .int _ _) rfl | exact r_move rfl) rfl rfl rfl ?_
    -- R1.2 10 := kernel.go:119 call
    have st : KH w0 B s (zR b6 :: l) w := V.back (I := [_]) st
    refine WL.call (r_call ty_call100 rfl) rfl rfl rfl (caller_ok (t := t) st) ?_
    rintro _ w ⟨rfl, st⟩
    -- R1.3 7 := kernel.go:119 assign
    refine WL.v (by exact r_assign (v := .int .i64 0) (congrArg (Value.int .i64) hc1)) rfl rfl rfl ?_
    refine WL.fin hK822 (fun _ _ h => h) ?_
    refine WC.seq fun K823 hK823 => ?_
    -- region 2
    refine WC.region ?_
    -- R2.0 11 := kernel.go:119 move
    refine WL.v (by first | exact r_move (v := .int _ _) rfl | exact r_move rfl) rfl rfl rfl ?_
    -- R2.1 12 := kernel.go:119 binOp
    refine WL.v (by first | exact r_neq rfl rfl (decide_eq_true (by omega)) | exact r_neq rfl rfl (decide_eq_false (by omega)) | exact r_neq rfl rfl rfl) rfl rfl rfl ?_
    refine WL.fin hK823 (fun _ _ h => h) ?_
    refine WC.condF rfl rfl ?_
    refine WC.skipF hK821 (fun _ _ h => h) ?_
    refine WC.seq fun K824 hK824 => ?_
    refine WC.seq fun K825 hK825 => ?_
    -- region 4
    refine WC.region ?_
    -- R4.0 16 := kernel.go:122 move
    refine WL.v (by first | exact r_move (v := .int _ _) rfl | exact r_move rfl) rfl rfl rfl ?_
    -- R4.1 17 := kernel.go:122 binOp
    refine WL.v (by first | exact r_lss rfl rfl (decide_eq_true (by omega)) | exact r_lss rfl rfl (decide_eq_false (by omega)) | exact r_lss rfl rfl rfl) rfl rfl rfl ?_
    -- R4.2 18 := kernel.go:122 move
    refine WL.v (by first | exact r_move (v := .bool _) rfl | exact r_move rfl) rfl rfl rfl ?_
    -- R4.3 19 := kernel.go:122 move
    refine WL.no rfl rfl ?_
    -- R4.4 20 := kernel.go:122 binOp
    refine WL.no rfl rfl ?_
    -- R4.5 21 := kernel.go:122 pick
    refine WL.v (by first | exact r_pickT (v := .bool _) rfl rfl | exact r_pickF (v := .bool _) rfl rfl) rfl rfl rfl ?_
    refine WL.fin hK825 (fun _ _ h => h) ?_
    refine WC.condT rfl rfl ?_
    refine WC.seq fun K826 hK826 => ?_
    -- region 5
    refine WC.region ?_
    -- R5.0 22 := kernel.go:123 move
    refine WL.v (by first | exact r_move (v := .pointer _) rfl | exact r_move rfl) rfl rfl rfl ?_
    -- R5.1 23 := kernel.go:123 call
    refine WL.call (r_call ty_call88 rfl) rfl rfl rfl (done_ok st) ?_
    rintro _ w ⟨ovr, XO, hor, rfl, st⟩
    obtain ⟨ar, cr, br, rfl, -, -, -, -⟩ := hor.form
    obtain ⟨Yr, st, backr⟩ := KH.out (st.perm (List.perm_append_comm_assoc XO [_] l))
    -- R5.2 None := kernel.go:123 store
    first | refine WL.storeW (vs := [_, _, _]) st ty_agg34 rfl rfl rfl rfl rfl rfl ?_ | refine WL.storeL (vs := [_, _, _]) st ty_agg34 rfl rfl rfl rfl (by first | decide | omega) rfl rfl ?_ | refine WL.storeW (vs := [_, _, _]) st.front1 ty_agg34 rfl rfl rfl rfl rfl rfl ?_ | refine WL.storeL (vs := [_, _, _]) st.front1 ty_agg34 rfl rfl rfl rfl (by first | decide | omega) rfl rfl ?_ | refine WL.storeW (vs := [_, _, _]) st.front2 ty_agg34 rfl rfl rfl rfl rfl rfl ?_ | refine WL.storeL (vs := [_, _, _]) st.front2 ty_agg34 rfl rfl rfl rfl (by first | decide | omega) rfl rfl ?_ | refine WL.storeW (vs := [_, _, _]) st.front3 ty_agg34 rfl rfl rfl rfl rfl rfl ?_ | refine WL.storeL (vs := [_, _, _]) st.front3 ty_agg34 rfl rfl rfl rfl (by first | decide | omega) rfl rfl ?_ | refine WL.storeW (vs := [_, _, _]) st.front4 ty_agg34 rfl rfl rfl rfl rfl rfl ?_ | refine WL.storeL (vs := [_, _, _]) st.front4 ty_agg34 rfl rfl rfl rfl (by first | decide | omega) rfl rfl ?_ | refine WL.storeW (vs := [_, _, _]) st.front5 ty_agg34 rfl rfl rfl rfl rfl rfl ?_ | refine WL.storeL (vs := [_, _, _]) st.front5 ty_agg34 rfl rfl rfl rfl (by first | decide | omega) rfl rfl ?_ | refine WL.storeW (vs := [_, _, _]) st.front6 ty_agg34 rfl rfl rfl rfl rfl rfl ?_ | refine WL.storeL (vs := [_, _, _]) st.front6 ty_agg34 rfl rfl rfl rfl (by first | decide | omega) rfl rfl ?_ | refine WL.storeW (vs := [_, _, _]) st.front7 ty_agg34 rfl rfl rfl rfl rfl rfl ?_ | refine WL.storeL (vs := [_, _, _]) st.front7 ty_agg34 rfl rfl rfl rfl (by first | decide | omega) rfl rfl ?_ | refine WL.storeW (vs := [_, _, _]) st.front8 ty_agg34 rfl rfl rfl rfl rfl rfl ?_ | refine WL.storeL (vs := [_, _, _]) st.front8 ty_agg34 rfl rfl rfl rfl (by first | decide | omega) rfl rfl ?_
    intro w st
    refine WL.fin hK826 (fun _ _ h => h) ?_
    refine WC.retC (vs := [_, _, _]) Tryz.results82 (fun _ _ h => h) rfl ty_agg34 rfl ⟨(by first | assumption | exact st.c0 (by first | decide | omega) | exact st.c1 (by first | decide | omega) | exact st.c2 (by first | decide | omega) | exact st.c3 (by first | decide | omega) | exact st.c4 (by first | decide | omega) | exact st.c5 (by first | decide | omega) | exact st.c6 (by first | decide | omega) | exact st.c7 (by first | decide | omega) | exact st.c8 (by first | decide | omega)), (by first | assumption | exact st.c0 (by first | decide | omega) | exact st.c1 (by first | decide | omega) | exact st.c2 (by first | decide | omega) | exact st.c3 (by first | decide | omega) | exact st.c4 (by first | decide | omega) | exact st.c5 (by first | decide | omega) | exact st.c6 (by first | decide | omega) | exact st.c7 (by first | decide | omega) | exact st.c8 (by first | decide | omega)), (by first | assumption | exact st.c0 (by first | decide | omega) | exact st.c1 (by first | decide | omega) | exact st.c2 (by first | decide | omega) | exact st.c3 (by first | decide | omega) | exact st.c4 (by first | decide | omega) | exact st.c5 (by first | decide | omega) | exact st.c6 (by first | decide | omega) | exact st.c7 (by first | decide | omega) | exact st.c8 (by first | decide | omega)), trivial⟩ ?_
    rw [e]
    exact ⟨_, rfl, _, XO, hor, rfl, (backr st).drop⟩
  by_cases hc12 : 20 ≤ r
  · have e : releaseP s (t : Nat) r = (s, 13) := e1.trans (if_pos (.inr hc12))
    refine enter [.pointer (some ⟨B.bk, 0, none⟩), .int .i64 (t : Nat), .int .i64 r] Tryz.func82 rfl Tryz.ntmps82 rfl ?_
    show WC _ _ _ 60 [] [(0, .pointer (some ⟨B.bk, 0, none⟩)), (1, .int .i64 (t : Nat)), (2, .int .i64 r)] _
    refine WC.seq fun K827 hK827 => ?_
    -- region 0
    refine WC.region ?_
    -- R0.0 6 := kernel.go:118 alloc
    refine WL.alloc (m := 3) st ty_zero34 rfl rfl rfl ?_
    intro b6 w st
    refine WL.fin hK827 (fun _ _ h => h) ?_
    refine WC.seq fun K828 hK828 => ?_
    refine WC.seq fun K829 hK829 => ?_
    -- region 1
    refine WC.region ?_
    -- R1.0 8 := kernel.go:119 move
    refine WL.v (by first | exact r_move (v := .pointer _) rfl | exact r_move rfl) rfl rfl rfl ?_
    -- R1.1 9 := kernel.go:119 move
    refine WL.v (by first | exact r_move (v := .int _ _) rfl | exact r_move rfl) rfl rfl rfl ?_
    -- R1.2 10 := kernel.go:119 call
    have st : KH w0 B s (zR b6 :: l) w := V.back (I := [_]) st
    refine WL.call (r_call ty_call100 rfl) rfl rfl rfl (caller_ok (t := t) st) ?_
    rintro _ w ⟨rfl, st⟩
    -- R1.3 7 := kernel.go:119 assign
    refine WL.v (by exact r_assign (v := .int .i64 0) (congrArg (Value.int .i64) hc1)) rfl rfl rfl ?_
    refine WL.fin hK829 (fun _ _ h => h) ?_
    refine WC.seq fun K830 hK830 => ?_
    -- region 2
    refine WC.region ?_
    -- R2.0 11 := kernel.go:119 move
    refine WL.v (by first | exact r_move (v := .int _ _) rfl | exact r_move rfl) rfl rfl rfl ?_
    -- R2.1 12 := kernel.go:119 binOp
    refine WL.v (by first | exact r_neq rfl rfl (decide_eq_true (by omega)) | exact r_neq rfl rfl (decide_eq_false (by omega)) | exact r_neq rfl rfl rfl) rfl rfl rfl ?_
    refine WL.fin hK830 (fun _ _ h => h) ?_
    refine WC.condF rfl rfl ?_
    refine WC.skipF hK828 (fun _ _ h => h) ?_
    refine WC.seq fun K831 hK831 => ?_
    refine WC.seq fun K832 hK832 => ?_
    -- region 4
    refine WC.region ?_
    -- R4.0 16 := kernel.go:122 move
    refine WL.v (by first | exact r_move (v := .int _ _) rfl | exact r_move rfl) rfl rfl rfl ?_
    -- R4.1 17 := kernel.go:122 binOp
    refine WL.v (by first | exact r_lss rfl rfl (decide_eq_true (by omega)) | exact r_lss rfl rfl (decide_eq_false (by omega)) | exact r_lss rfl rfl rfl) rfl rfl rfl ?_
    -- R4.2 18 := kernel.go:122 move
    refine WL.v (by first | exact r_move (v := .bool _) rfl | exact r_move rfl) rfl rfl rfl ?_
    -- R4.3 19 := kernel.go:122 move
    refine WL.v (by first | exact r_move (v := .int _ _) rfl | exact r_move rfl) rfl rfl rfl ?_
    -- R4.4 20 := kernel.go:122 binOp
    refine WL.v (by first | exact r_geq rfl rfl (decide_eq_true (by omega)) | exact r_geq rfl rfl (decide_eq_false (by omega)) | exact r_geq rfl rfl rfl) rfl rfl rfl ?_
    -- R4.5 21 := kernel.go:122 pick
    refine WL.v (by first | exact r_pickT (v := .bool _) rfl rfl | exact r_pickF (v := .bool _) rfl rfl) rfl rfl rfl ?_
    refine WL.fin hK832 (fun _ _ h => h) ?_
    refine WC.condT rfl rfl ?_
    refine WC.seq fun K833 hK833 => ?_
    -- region 5
    refine WC.region ?_
    -- R5.0 22 := kernel.go:123 move
    refine WL.v (by first | exact r_move (v := .pointer _) rfl | exact r_move rfl) rfl rfl rfl ?_
    -- R5.1 23 := kernel.go:123 call
    refine WL.call (r_call ty_call88 rfl) rfl rfl rfl (done_ok st) ?_
    rintro _ w ⟨ovr, XO, hor, rfl, st⟩
    obtain ⟨ar, cr, br, rfl, -, -, -, -⟩ := hor.form
    obtain ⟨Yr, st, backr⟩ := KH.out (st.perm (List.perm_append_comm_assoc XO [_] l))
    -- R5.2 None := kernel.go:123 store
    first | refine WL.storeW (vs := [_, _, _]) st ty_agg34 rfl rfl rfl rfl rfl rfl ?_ | refine WL.storeL (vs := [_, _, _]) st ty_agg34 rfl rfl rfl rfl (by first | decide | omega) rfl rfl ?_ | refine WL.storeW (vs := [_, _, _]) st.front1 ty_agg34 rfl rfl rfl rfl rfl rfl ?_ | refine WL.storeL (vs := [_, _, _]) st.front1 ty_agg34 rfl rfl rfl rfl (by first | decide | omega) rfl rfl ?_ | refine WL.storeW (vs := [_, _, _]) st.front2 ty_agg34 rfl rfl rfl rfl rfl rfl ?_ | refine WL.storeL (vs := [_, _, _]) st.front2 ty_agg34 rfl rfl rfl rfl (by first | decide | omega) rfl rfl ?_ | refine WL.storeW (vs := [_, _, _]) st.front3 ty_agg34 rfl rfl rfl rfl rfl rfl ?_ | refine WL.storeL (vs := [_, _, _]) st.front3 ty_agg34 rfl rfl rfl rfl (by first | decide | omega) rfl rfl ?_ | refine WL.storeW (vs := [_, _, _]) st.front4 ty_agg34 rfl rfl rfl rfl rfl rfl ?_ | refine WL.storeL (vs := [_, _, _]) st.front4 ty_agg34 rfl rfl rfl rfl (by first | decide | omega) rfl rfl ?_ | refine WL.storeW (vs := [_, _, _]) st.front5 ty_agg34 rfl rfl rfl rfl rfl rfl ?_ | refine WL.storeL (vs := [_, _, _]) st.front5 ty_agg34 rfl rfl rfl rfl (by first | decide | omega) rfl rfl ?_ | refine WL.storeW (vs := [_, _, _]) st.front6 ty_agg34 rfl rfl rfl rfl rfl rfl ?_ | refine WL.storeL (vs := [_, _, _]) st.front6 ty_agg34 rfl rfl rfl rfl (by first | decide | omega) rfl rfl ?_ | refine WL.storeW (vs := [_, _, _]) st.front7 ty_agg34 rfl rfl rfl rfl rfl rfl ?_ | refine WL.storeL (vs := [_, _, _]) st.front7 ty_agg34 rfl rfl rfl rfl (by first | decide | omega) rfl rfl ?_ | refine WL.storeW (vs := [_, _, _]) st.front8 ty_agg34 rfl rfl rfl rfl rfl rfl ?_ | refine WL.storeL (vs := [_, _, _]) st.front8 ty_agg34 rfl rfl rfl rfl (by first | decide | omega) rfl rfl ?_
    intro w st
    refine WL.fin hK833 (fun _ _ h => h) ?_
    refine WC.retC (vs := [_, _, _]) Tryz.results82 (fun _ _ h => h) rfl ty_agg34 rfl ⟨(by first | assumption | exact st.c0 (by first | decide | omega) | exact st.c1 (by first | decide | omega) | exact st.c2 (by first | decide | omega) | exact st.c3 (by first | decide | omega) | exact st.c4 (by first | decide | omega) | exact st.c5 (by first | decide | omega) | exact st.c6 (by first | decide | omega) | exact st.c7 (by first | decide | omega) | exact st.c8 (by first | decide | omega)), (by first | assumption | exact st.c0 (by first | decide | omega) | exact st.c1 (by first | decide | omega) | exact st.c2 (by first | decide | omega) | exact st.c3 (by first | decide | omega) | exact st.c4 (by first | decide | omega) | exact st.c5 (by first | decide | omega) | exact st.c6 (by first | decide | omega) | exact st.c7 (by first | decide | omega) | exact st.c8 (by first | decide | omega)), (by first | assumption | exact st.c0 (by first | decide | omega) | exact st.c1 (by first | decide | omega) | exact st.c2 (by first | decide | omega) | exact st.c3 (by first | decide | omega) | exact st.c4 (by first | decide | omega) | exact st.c5 (by first | decide | omega) | exact st.c6 (by first | decide | omega) | exact st.c7 (by first | decide | omega) | exact st.c8 (by first | decide | omega)), trivial⟩ ?_
    rw [e]
    exact ⟨_, rfl, _, XO, hor, rfl, (backr st).drop⟩
  obtain ⟨r, rfl⟩ : ∃ n : Nat, r = n := ⟨r.toNat, by omega⟩
  have hr : r < 20 := by omega
  have e2 : releaseP s (t : Nat) (r : Nat) = if s.held t r = 0 then (s, 16) else if 8 ≤ r ∧ touchesP (s.tk t) (r - 8) = true then (s, 17) else (wakeP { s with held := upd2 s.held t r 0 }, 0) := by
    rw [e1, if_neg (by omega), Int.toNat_natCast]
    simp only [show (8 ≤ (r : Int)) ↔ 8 ≤ r by omega]
  by_cases hh : s.held t r = 0
  · have e : releaseP s (t : Nat) (r : Nat) = (s, 16) := e2.trans (if_pos hh)
    refine enter [.pointer (some ⟨B.bk, 0, none⟩), .int .i64 (t : Nat), .int .i64 (r : Nat)] Tryz.func82 rfl Tryz.ntmps82 rfl ?_
    show WC _ _ _ 60 [] [(0, .pointer (some ⟨B.bk, 0, none⟩)), (1, .int .i64 (t : Nat)), (2, .int .i64 (r : Nat))] _
    refine WC.seq fun K834 hK834 => ?_
    -- region 0
    refine WC.region ?_
    -- R0.0 6 := kernel.go:118 alloc
    refine WL.alloc (m := 3) st ty_zero34 rfl rfl rfl ?_
    intro b6 w st
    refine WL.fin hK834 (fun _ _ h => h) ?_
    refine WC.seq fun K835 hK835 => ?_
    refine WC.seq fun K836 hK836 => ?_
    -- region 1
    refine WC.region ?_
    -- R1.0 8 := kernel.go:119 move
    refine WL.v (by first | exact r_move (v := .pointer _) rfl | exact r_move rfl) rfl rfl rfl ?_
    -- R1.1 9 := kernel.go:119 move
    refine WL.v (by first | exact r_move (v := .int _ _) rfl | exact r_move rfl) rfl rfl rfl ?_
    -- R1.2 10 := kernel.go:119 call
    have st : KH w0 B s (zR b6 :: l) w := V.back (I := [_]) st
    refine WL.call (r_call ty_call100 rfl) rfl rfl rfl (caller_ok (t := t) st) ?_
    rintro _ w ⟨rfl, st⟩
    -- R1.3 7 := kernel.go:119 assign
    refine WL.v (by exact r_assign (v := .int .i64 0) (congrArg (Value.int .i64) hc1)) rfl rfl rfl ?_
    refine WL.fin hK836 (fun _ _ h => h) ?_
    refine WC.seq fun K837 hK837 => ?_
    -- region 2
    refine WC.region ?_
    -- R2.0 11 := kernel.go:119 move
    refine WL.v (by first | exact r_move (v := .int _ _) rfl | exact r_move rfl) rfl rfl rfl ?_
    -- R2.1 12 := kernel.go:119 binOp
    refine WL.v (by first | exact r_neq rfl rfl (decide_eq_true (by omega)) | exact r_neq rfl rfl (decide_eq_false (by omega)) | exact r_neq rfl rfl rfl) rfl rfl rfl ?_
    refine WL.fin hK837 (fun _ _ h => h) ?_
    refine WC.condF rfl rfl ?_
    refine WC.skipF hK835 (fun _ _ h => h) ?_
    refine WC.seq fun K838 hK838 => ?_
    refine WC.seq fun K839 hK839 => ?_
    -- region 4
    refine WC.region ?_
    -- R4.0 16 := kernel.go:122 move
    refine WL.v (by first | exact r_move (v := .int _ _) rfl | exact r_move rfl) rfl rfl rfl ?_
    -- R4.1 17 := kernel.go:122 binOp
    refine WL.v (by first | exact r_lss rfl rfl (decide_eq_true (by omega)) | exact r_lss rfl rfl (decide_eq_false (by omega)) | exact r_lss rfl rfl rfl) rfl rfl rfl ?_
    -- R4.2 18 := kernel.go:122 move
    refine WL.v (by first | exact r_move (v := .bool _) rfl | exact r_move rfl) rfl rfl rfl ?_
    -- R4.3 19 := kernel.go:122 move
    refine WL.v (by first | exact r_move (v := .int _ _) rfl | exact r_move rfl) rfl rfl rfl ?_
    -- R4.4 20 := kernel.go:122 binOp
    refine WL.v (by first | exact r_geq rfl rfl (decide_eq_true (by omega)) | exact r_geq rfl rfl (decide_eq_false (by omega)) | exact r_geq rfl rfl rfl) rfl rfl rfl ?_
    -- R4.5 21 := kernel.go:122 pick
    refine WL.v (by first | exact r_pickT (v := .bool _) rfl rfl | exact r_pickF (v := .bool _) rfl rfl) rfl rfl rfl ?_
    refine WL.fin hK839 (fun _ _ h => h) ?_
    refine WC.condF rfl rfl ?_
    refine WC.skipF hK838 (fun _ _ h => h) ?_
    refine WC.seq fun K840 hK840 => ?_
    refine WC.seq fun K841 hK841 => ?_
    -- region 6
    obtain ⟨Y1, qv1, XQ1, tv1, ov1, V1, st⟩ := st.view
    refine WC.region ?_
    -- R6.0 24 := kernel.go:125 move
    refine WL.v (by first | exact r_move (v := .pointer _) rfl | exact r_move rfl) rfl rfl rfl ?_
    -- R6.1 25 := kernel.go:125 nilCheck
    refine WL.v (by exact r_nilCheck rfl) rfl rfl rfl ?_
    -- R6.2 26 := kernel.go:125 fieldAddr
    refine WL.v (by exact r_field ty_fld120_1 rfl) rfl rfl rfl ?_
    -- R6.3 27 := kernel.go:125 load
    refine WL.v (by exact r_load1 (v := .pointer (some ⟨B.br, 0, none⟩)) ty_one107 rfl (V1.cr st)) rfl rfl rfl ?_
    -- R6.4 28 := kernel.go:125 move
    refine WL.v (by first | exact r_move (v := .int _ _) rfl | exact r_move rfl) rfl rfl rfl ?_
    -- R6.5 29 := kernel.go:125 move
    refine WL.v (by first | exact r_move (v := .int _ _) rfl | exact r_move rfl) rfl rfl rfl ?_
    -- R6.6 30 := kernel.go:125 call
    refine WL.call (r_call ty_call104 rfl) rfl rfl rfl (held_ok ht hr V1.r st) ?_
    rintro _ w ⟨rfl, st⟩
    -- R6.7 31 := kernel.go:125 binOp
    refine WL.v (by first | exact r_eql rfl rfl (decide_eq_true (by omega)) | exact r_eql rfl rfl (decide_eq_false (by omega)) | exact r_eql rfl rfl rfl) rfl rfl rfl ?_
    refine WL.fin hK841 (fun _ _ h => h) ?_
    refine WC.condT rfl rfl ?_
    refine WC.seq fun K842 hK842 => ?_
    -- region 7
    refine WC.region ?_
    -- R7.0 32 := kernel.go:126 move
    refine WL.v (by first | exact r_move (v := .pointer _) rfl | exact r_move rfl) rfl rfl rfl ?_
    -- R7.1 33 := kernel.go:126 call
    refine WL.call (r_call ty_call88 rfl) rfl rfl rfl (done_ok (V1.same st)) ?_
    rintro _ w ⟨ovr, XO, hor, rfl, st⟩
    obtain ⟨ar, cr, br, rfl, -, -, -, -⟩ := hor.form
    obtain ⟨Yr, st, backr⟩ := KH.out (st.perm (List.perm_append_comm_assoc XO [_] l))
    -- R7.2 None := kernel.go:126 store
    first | refine WL.storeW (vs := [_, _, _]) st ty_agg34 rfl rfl rfl rfl rfl rfl ?_ | refine WL.storeL (vs := [_, _, _]) st ty_agg34 rfl rfl rfl rfl (by first | decide | omega) rfl rfl ?_ | refine WL.storeW (vs := [_, _, _]) st.front1 ty_agg34 rfl rfl rfl rfl rfl rfl ?_ | refine WL.storeL (vs := [_, _, _]) st.front1 ty_agg34 rfl rfl rfl rfl (by first | decide | omega) rfl rfl ?_ | refine WL.storeW (vs := [_, _, _]) st.front2 ty_agg34 rfl rfl rfl rfl rfl rfl ?_ | refine WL.storeL (vs := [_, _, _]) st.front2 ty_agg34 rfl rfl rfl rfl (by first | decide | omega) rfl rfl ?_ | refine WL.storeW (vs := [_, _, _]) st.front3 ty_agg34 rfl rfl rfl rfl rfl rfl ?_ | refine WL.storeL (vs := [_, _, _]) st.front3 ty_agg34 rfl rfl rfl rfl (by first | decide | omega) rfl rfl ?_ | refine WL.storeW (vs := [_, _, _]) st.front4 ty_agg34 rfl rfl rfl rfl rfl rfl ?_ | refine WL.storeL (vs := [_, _, _]) st.front4 ty_agg34 rfl rfl rfl rfl (by first | decide | omega) rfl rfl ?_ | refine WL.storeW (vs := [_, _, _]) st.front5 ty_agg34 rfl rfl rfl rfl rfl rfl ?_ | refine WL.storeL (vs := [_, _, _]) st.front5 ty_agg34 rfl rfl rfl rfl (by first | decide | omega) rfl rfl ?_ | refine WL.storeW (vs := [_, _, _]) st.front6 ty_agg34 rfl rfl rfl rfl rfl rfl ?_ | refine WL.storeL (vs := [_, _, _]) st.front6 ty_agg34 rfl rfl rfl rfl (by first | decide | omega) rfl rfl ?_ | refine WL.storeW (vs := [_, _, _]) st.front7 ty_agg34 rfl rfl rfl rfl rfl rfl ?_ | refine WL.storeL (vs := [_, _, _]) st.front7 ty_agg34 rfl rfl rfl rfl (by first | decide | omega) rfl rfl ?_ | refine WL.storeW (vs := [_, _, _]) st.front8 ty_agg34 rfl rfl rfl rfl rfl rfl ?_ | refine WL.storeL (vs := [_, _, _]) st.front8 ty_agg34 rfl rfl rfl rfl (by first | decide | omega) rfl rfl ?_
    intro w st
    refine WL.fin hK842 (fun _ _ h => h) ?_
    refine WC.retC (vs := [_, _, _]) Tryz.results82 (fun _ _ h => h) rfl ty_agg34 rfl ⟨(by first | assumption | exact st.c0 (by first | decide | omega) | exact st.c1 (by first | decide | omega) | exact st.c2 (by first | decide | omega) | exact st.c3 (by first | decide | omega) | exact st.c4 (by first | decide | omega) | exact st.c5 (by first | decide | omega) | exact st.c6 (by first | decide | omega) | exact st.c7 (by first | decide | omega) | exact st.c8 (by first | decide | omega)), (by first | assumption | exact st.c0 (by first | decide | omega) | exact st.c1 (by first | decide | omega) | exact st.c2 (by first | decide | omega) | exact st.c3 (by first | decide | omega) | exact st.c4 (by first | decide | omega) | exact st.c5 (by first | decide | omega) | exact st.c6 (by first | decide | omega) | exact st.c7 (by first | decide | omega) | exact st.c8 (by first | decide | omega)), (by first | assumption | exact st.c0 (by first | decide | omega) | exact st.c1 (by first | decide | omega) | exact st.c2 (by first | decide | omega) | exact st.c3 (by first | decide | omega) | exact st.c4 (by first | decide | omega) | exact st.c5 (by first | decide | omega) | exact st.c6 (by first | decide | omega) | exact st.c7 (by first | decide | omega) | exact st.c8 (by first | decide | omega)), trivial⟩ ?_
    rw [e]
    exact ⟨_, rfl, _, XO, hor, rfl, (backr st).drop⟩
  have e3 : releaseP s (t : Nat) (r : Nat) = if 8 ≤ r ∧ touchesP (s.tk t) (r - 8) = true then (s, 17) else (wakeP { s with held := upd2 s.held t r 0 }, 0) := e2.trans (if_neg hh)
  by_cases h8 : 8 ≤ r
  · skip
    rcases Bool.eq_false_or_eq_true (touchesP (s.tk t) (r - 8)) with hto | hto
    · have e : releaseP s (t : Nat) (r : Nat) = (s, 17) := e3.trans (if_pos ⟨h8, hto⟩)
      refine enter [.pointer (some ⟨B.bk, 0, none⟩), .int .i64 (t : Nat), .int .i64 (r : Nat)] Tryz.func82 rfl Tryz.ntmps82 rfl ?_
      show WC _ _ _ 60 [] [(0, .pointer (some ⟨B.bk, 0, none⟩)), (1, .int .i64 (t : Nat)), (2, .int .i64 (r : Nat))] _
      refine WC.seq fun K843 hK843 => ?_
      -- region 0
      refine WC.region ?_
      -- R0.0 6 := kernel.go:118 alloc
      refine WL.alloc (m := 3) st ty_zero34 rfl rfl rfl ?_
      intro b6 w st
      refine WL.fin hK843 (fun _ _ h => h) ?_
      refine WC.seq fun K844 hK844 => ?_
      refine WC.seq fun K845 hK845 => ?_
      -- region 1
      refine WC.region ?_
      -- R1.0 8 := kernel.go:119 move
      refine WL.v (by first | exact r_move (v := .pointer _) rfl | exact r_move rfl) rfl rfl rfl ?_
      -- R1.1 9 := kernel.go:119 move
      refine WL.v (by first | exact r_move (v := .int _ _) rfl | exact r_move rfl) rfl rfl rfl ?_
      -- R1.2 10 := kernel.go:119 call
      have st : KH w0 B s (zR b6 :: l) w := V.back (I := [_]) st
      refine WL.call (r_call ty_call100 rfl) rfl rfl rfl (caller_ok (t := t) st) ?_
      rintro _ w ⟨rfl, st⟩
      -- R1.3 7 := kernel.go:119 assign
      refine WL.v (by exact r_assign (v := .int .i64 0) (congrArg (Value.int .i64) hc1)) rfl rfl rfl ?_
      refine WL.fin hK845 (fun _ _ h => h) ?_
      refine WC.seq fun K846 hK846 => ?_
      -- region 2
      refine WC.region ?_
      -- R2.0 11 := kernel.go:119 move
      refine WL.v (by first | exact r_move (v := .int _ _) rfl | exact r_move rfl) rfl rfl rfl ?_
      -- R2.1 12 := kernel.go:119 binOp
      refine WL.v (by first | exact r_neq rfl rfl (decide_eq_true (by omega)) | exact r_neq rfl rfl (decide_eq_false (by omega)) | exact r_neq rfl rfl rfl) rfl rfl rfl ?_
      refine WL.fin hK846 (fun _ _ h => h) ?_
      refine WC.condF rfl rfl ?_
      refine WC.skipF hK844 (fun _ _ h => h) ?_
      refine WC.seq fun K847 hK847 => ?_
      refine WC.seq fun K848 hK848 => ?_
      -- region 4
      refine WC.region ?_
      -- R4.0 16 := kernel.go:122 move
      refine WL.v (by first | exact r_move (v := .int _ _) rfl | exact r_move rfl) rfl rfl rfl ?_
      -- R4.1 17 := kernel.go:122 binOp
      refine WL.v (by first | exact r_lss rfl rfl (decide_eq_true (by omega)) | exact r_lss rfl rfl (decide_eq_false (by omega)) | exact r_lss rfl rfl rfl) rfl rfl rfl ?_
      -- R4.2 18 := kernel.go:122 move
      refine WL.v (by first | exact r_move (v := .bool _) rfl | exact r_move rfl) rfl rfl rfl ?_
      -- R4.3 19 := kernel.go:122 move
      refine WL.v (by first | exact r_move (v := .int _ _) rfl | exact r_move rfl) rfl rfl rfl ?_
      -- R4.4 20 := kernel.go:122 binOp
      refine WL.v (by first | exact r_geq rfl rfl (decide_eq_true (by omega)) | exact r_geq rfl rfl (decide_eq_false (by omega)) | exact r_geq rfl rfl rfl) rfl rfl rfl ?_
      -- R4.5 21 := kernel.go:122 pick
      refine WL.v (by first | exact r_pickT (v := .bool _) rfl rfl | exact r_pickF (v := .bool _) rfl rfl) rfl rfl rfl ?_
      refine WL.fin hK848 (fun _ _ h => h) ?_
      refine WC.condF rfl rfl ?_
      refine WC.skipF hK847 (fun _ _ h => h) ?_
      refine WC.seq fun K849 hK849 => ?_
      refine WC.seq fun K850 hK850 => ?_
      -- region 6
      obtain ⟨Y1, qv1, XQ1, tv1, ov1, V1, st⟩ := st.view
      refine WC.region ?_
      -- R6.0 24 := kernel.go:125 move
      refine WL.v (by first | exact r_move (v := .pointer _) rfl | exact r_move rfl) rfl rfl rfl ?_
      -- R6.1 25 := kernel.go:125 nilCheck
      refine WL.v (by exact r_nilCheck rfl) rfl rfl rfl ?_
      -- R6.2 26 := kernel.go:125 fieldAddr
      refine WL.v (by exact r_field ty_fld120_1 rfl) rfl rfl rfl ?_
      -- R6.3 27 := kernel.go:125 load
      refine WL.v (by exact r_load1 (v := .pointer (some ⟨B.br, 0, none⟩)) ty_one107 rfl (V1.cr st)) rfl rfl rfl ?_
      -- R6.4 28 := kernel.go:125 move
      refine WL.v (by first | exact r_move (v := .int _ _) rfl | exact r_move rfl) rfl rfl rfl ?_
      -- R6.5 29 := kernel.go:125 move
      refine WL.v (by first | exact r_move (v := .int _ _) rfl | exact r_move rfl) rfl rfl rfl ?_
      -- R6.6 30 := kernel.go:125 call
      refine WL.call (r_call ty_call104 rfl) rfl rfl rfl (held_ok ht hr V1.r st) ?_
      rintro _ w ⟨rfl, st⟩
      -- R6.7 31 := kernel.go:125 binOp
      refine WL.v (by first | exact r_eql rfl rfl (decide_eq_true (by omega)) | exact r_eql rfl rfl (decide_eq_false (by omega)) | exact r_eql rfl rfl rfl) rfl rfl rfl ?_
      refine WL.fin hK850 (fun _ _ h => h) ?_
      refine WC.condF rfl rfl ?_
      refine WC.skipF hK849 (fun _ _ h => h) ?_
      refine WC.seq fun K851 hK851 => ?_
      refine WC.seq fun K852 hK852 => ?_
      -- region 8
      refine WC.region ?_
      -- R8.0 34 := kernel.go:128 move
      refine WL.v (by first | exact r_move (v := .int _ _) rfl | exact r_move rfl) rfl rfl rfl ?_
      -- R8.1 35 := kernel.go:128 binOp
      refine WL.v (by exact r_geq rfl rfl (decide_eq_true (by omega))) rfl rfl rfl ?_
      -- R8.2 36 := kernel.go:128 move
      refine WL.v (by first | exact r_move (v := .bool _) rfl | exact r_move rfl) rfl rfl rfl ?_
      -- R8.3 37 := kernel.go:128 move
      refine WL.v (by first | exact r_move (v := .pointer _) rfl | exact r_move rfl) rfl rfl rfl ?_
      -- R8.4 38 := kernel.go:128 move
      refine WL.v (by first | exact r_move (v := .int _ _) rfl | exact r_move rfl) rfl rfl rfl ?_
      -- R8.5 39 := kernel.go:128 nilCheck
      refine WL.v (by exact r_nilCheck rfl) rfl rfl rfl ?_
      -- R8.6 40 := kernel.go:128 fieldAddr
      refine WL.v (by exact r_field ty_fld120_3 rfl) rfl rfl rfl ?_
      -- R8.7 41 := kernel.go:128 indexAddr
      refine WL.v (by exact r_indexA ty_ar118 rfl rfl rfl (by omega)) rfl rfl rfl ?_
      -- R8.8 42 := kernel.go:128 fieldAddr
      refine WL.v (by exact r_field ty_fld117_6 rfl) rfl rfl rfl ?_
      -- R8.9 43 := kernel.go:128 move
      refine WL.v (by first | exact r_move (v := .int _ _) rfl | exact r_move rfl) rfl rfl rfl ?_
      -- R8.10 44 := kernel.go:128 binOp
      refine WL.v (by exact r_sub (r := ((r - 8 : Nat) : Int)) rfl rfl ((wi64 (by omega) (by omega)).trans (by omega))) rfl rfl rfl ?_
      -- R8.11 45 := kernel.go:128 call
      refine WL.call (r_call ty_call105 rfl) rfl rfl rfl (touches_ok (a := 0 + 3 + t * 135 + 6) (c := r - 8) V1.k ht (by omega) (hB.n t) st) ?_
      rintro _ w ⟨he, st⟩
      rw [hto] at he
      subst he
      -- R8.12 46 := kernel.go:128 pick
      refine WL.v (by first | exact r_pickT (v := .bool _) rfl rfl | exact r_pickF (v := .bool _) rfl rfl) rfl rfl rfl ?_
      refine WL.fin hK852 (fun _ _ h => h) ?_
      refine WC.condT rfl rfl ?_
      refine WC.seq fun K853 hK853 => ?_
      -- region 9
      refine WC.region ?_
      -- R9.0 47 := kernel.go:129 move
      refine WL.v (by first | exact r_move (v := .pointer _) rfl | exact r_move rfl) rfl rfl rfl ?_
      -- R9.1 48 := kernel.go:129 call
      refine WL.call (r_call ty_call88 rfl) rfl rfl rfl (done_ok (V1.same st)) ?_
      rintro _ w ⟨ovr, XO, hor, rfl, st⟩
      obtain ⟨ar, cr, br, rfl, -, -, -, -⟩ := hor.form
      obtain ⟨Yr, st, backr⟩ := KH.out (st.perm (List.perm_append_comm_assoc XO [_] l))
      -- R9.2 None := kernel.go:129 store
      first | refine WL.storeW (vs := [_, _, _]) st ty_agg34 rfl rfl rfl rfl rfl rfl ?_ | refine WL.storeL (vs := [_, _, _]) st ty_agg34 rfl rfl rfl rfl (by first | decide | omega) rfl rfl ?_ | refine WL.storeW (vs := [_, _, _]) st.front1 ty_agg34 rfl rfl rfl rfl rfl rfl ?_ | refine WL.storeL (vs := [_, _, _]) st.front1 ty_agg34 rfl rfl rfl rfl (by first | decide | omega) rfl rfl ?_ | refine WL.storeW (vs := [_, _, _]) st.front2 ty_agg34 rfl rfl rfl rfl rfl rfl ?_ | refine WL.storeL (vs := [_, _, _]) st.front2 ty_agg34 rfl rfl rfl rfl (by first | decide | omega) rfl rfl ?_ | refine WL.storeW (vs := [_, _, _]) st.front3 ty_agg34 rfl rfl rfl rfl rfl rfl ?_ | refine WL.storeL (vs := [_, _, _]) st.front3 ty_agg34 rfl rfl rfl rfl (by first | decide | omega) rfl rfl ?_ | refine WL.storeW (vs := [_, _, _]) st.front4 ty_agg34 rfl rfl rfl rfl rfl rfl ?_ | refine WL.storeL (vs := [_, _, _]) st.front4 ty_agg34 rfl rfl rfl rfl (by first | decide | omega) rfl rfl ?_ | refine WL.storeW (vs := [_, _, _]) st.front5 ty_agg34 rfl rfl rfl rfl rfl rfl ?_ | refine WL.storeL (vs := [_, _, _]) st.front5 ty_agg34 rfl rfl rfl rfl (by first | decide | omega) rfl rfl ?_ | refine WL.storeW (vs := [_, _, _]) st.front6 ty_agg34 rfl rfl rfl rfl rfl rfl ?_ | refine WL.storeL (vs := [_, _, _]) st.front6 ty_agg34 rfl rfl rfl rfl (by first | decide | omega) rfl rfl ?_ | refine WL.storeW (vs := [_, _, _]) st.front7 ty_agg34 rfl rfl rfl rfl rfl rfl ?_ | refine WL.storeL (vs := [_, _, _]) st.front7 ty_agg34 rfl rfl rfl rfl (by first | decide | omega) rfl rfl ?_ | refine WL.storeW (vs := [_, _, _]) st.front8 ty_agg34 rfl rfl rfl rfl rfl rfl ?_ | refine WL.storeL (vs := [_, _, _]) st.front8 ty_agg34 rfl rfl rfl rfl (by first | decide | omega) rfl rfl ?_
      intro w st
      refine WL.fin hK853 (fun _ _ h => h) ?_
      refine WC.retC (vs := [_, _, _]) Tryz.results82 (fun _ _ h => h) rfl ty_agg34 rfl ⟨(by first | assumption | exact st.c0 (by first | decide | omega) | exact st.c1 (by first | decide | omega) | exact st.c2 (by first | decide | omega) | exact st.c3 (by first | decide | omega) | exact st.c4 (by first | decide | omega) | exact st.c5 (by first | decide | omega) | exact st.c6 (by first | decide | omega) | exact st.c7 (by first | decide | omega) | exact st.c8 (by first | decide | omega)), (by first | assumption | exact st.c0 (by first | decide | omega) | exact st.c1 (by first | decide | omega) | exact st.c2 (by first | decide | omega) | exact st.c3 (by first | decide | omega) | exact st.c4 (by first | decide | omega) | exact st.c5 (by first | decide | omega) | exact st.c6 (by first | decide | omega) | exact st.c7 (by first | decide | omega) | exact st.c8 (by first | decide | omega)), (by first | assumption | exact st.c0 (by first | decide | omega) | exact st.c1 (by first | decide | omega) | exact st.c2 (by first | decide | omega) | exact st.c3 (by first | decide | omega) | exact st.c4 (by first | decide | omega) | exact st.c5 (by first | decide | omega) | exact st.c6 (by first | decide | omega) | exact st.c7 (by first | decide | omega) | exact st.c8 (by first | decide | omega)), trivial⟩ ?_
      rw [e]
      exact ⟨_, rfl, _, XO, hor, rfl, (backr st).drop⟩
    · have e : releaseP s (t : Nat) (r : Nat) = (wakeP { s with held := upd2 s.held t r 0 }, 0) := e3.trans (if_neg (by rw [hto]; rintro ⟨_, h⟩; cases h))
      refine enter [.pointer (some ⟨B.bk, 0, none⟩), .int .i64 (t : Nat), .int .i64 (r : Nat)] Tryz.func82 rfl Tryz.ntmps82 rfl ?_
      show WC _ _ _ 60 [] [(0, .pointer (some ⟨B.bk, 0, none⟩)), (1, .int .i64 (t : Nat)), (2, .int .i64 (r : Nat))] _
      refine WC.seq fun K854 hK854 => ?_
      -- region 0
      refine WC.region ?_
      -- R0.0 6 := kernel.go:118 alloc
      refine WL.alloc (m := 3) st ty_zero34 rfl rfl rfl ?_
      intro b6 w st
      refine WL.fin hK854 (fun _ _ h => h) ?_
      refine WC.seq fun K855 hK855 => ?_
      refine WC.seq fun K856 hK856 => ?_
      -- region 1
      refine WC.region ?_
      -- R1.0 8 := kernel.go:119 move
      refine WL.v (by first | exact r_move (v := .pointer _) rfl | exact r_move rfl) rfl rfl rfl ?_
      -- R1.1 9 := kernel.go:119 move
      refine WL.v (by first | exact r_move (v := .int _ _) rfl | exact r_move rfl) rfl rfl rfl ?_
      -- R1.2 10 := kernel.go:119 call
      have st : KH w0 B s (zR b6 :: l) w := V.back (I := [_]) st
      refine WL.call (r_call ty_call100 rfl) rfl rfl rfl (caller_ok (t := t) st) ?_
      rintro _ w ⟨rfl, st⟩
      -- R1.3 7 := kernel.go:119 assign
      refine WL.v (by exact r_assign (v := .int .i64 0) (congrArg (Value.int .i64) hc1)) rfl rfl rfl ?_
      refine WL.fin hK856 (fun _ _ h => h) ?_
      refine WC.seq fun K857 hK857 => ?_
      -- region 2
      refine WC.region ?_
      -- R2.0 11 := kernel.go:119 move
      refine WL.v (by first | exact r_move (v := .int _ _) rfl | exact r_move rfl) rfl rfl rfl ?_
      -- R2.1 12 := kernel.go:119 binOp
      refine WL.v (by first | exact r_neq rfl rfl (decide_eq_true (by omega)) | exact r_neq rfl rfl (decide_eq_false (by omega)) | exact r_neq rfl rfl rfl) rfl rfl rfl ?_
      refine WL.fin hK857 (fun _ _ h => h) ?_
      refine WC.condF rfl rfl ?_
      refine WC.skipF hK855 (fun _ _ h => h) ?_
      refine WC.seq fun K858 hK858 => ?_
      refine WC.seq fun K859 hK859 => ?_
      -- region 4
      refine WC.region ?_
      -- R4.0 16 := kernel.go:122 move
      refine WL.v (by first | exact r_move (v := .int _ _) rfl | exact r_move rfl) rfl rfl rfl ?_
      -- R4.1 17 := kernel.go:122 binOp
      refine WL.v (by first | exact r_lss rfl rfl (decide_eq_true (by omega)) | exact r_lss rfl rfl (decide_eq_false (by omega)) | exact r_lss rfl rfl rfl) rfl rfl rfl ?_
      -- R4.2 18 := kernel.go:122 move
      refine WL.v (by first | exact r_move (v := .bool _) rfl | exact r_move rfl) rfl rfl rfl ?_
      -- R4.3 19 := kernel.go:122 move
      refine WL.v (by first | exact r_move (v := .int _ _) rfl | exact r_move rfl) rfl rfl rfl ?_
      -- R4.4 20 := kernel.go:122 binOp
      refine WL.v (by first | exact r_geq rfl rfl (decide_eq_true (by omega)) | exact r_geq rfl rfl (decide_eq_false (by omega)) | exact r_geq rfl rfl rfl) rfl rfl rfl ?_
      -- R4.5 21 := kernel.go:122 pick
      refine WL.v (by first | exact r_pickT (v := .bool _) rfl rfl | exact r_pickF (v := .bool _) rfl rfl) rfl rfl rfl ?_
      refine WL.fin hK859 (fun _ _ h => h) ?_
      refine WC.condF rfl rfl ?_
      refine WC.skipF hK858 (fun _ _ h => h) ?_
      refine WC.seq fun K860 hK860 => ?_
      refine WC.seq fun K861 hK861 => ?_
      -- region 6
      obtain ⟨Y1, qv1, XQ1, tv1, ov1, V1, st⟩ := st.view
      refine WC.region ?_
      -- R6.0 24 := kernel.go:125 move
      refine WL.v (by first | exact r_move (v := .pointer _) rfl | exact r_move rfl) rfl rfl rfl ?_
      -- R6.1 25 := kernel.go:125 nilCheck
      refine WL.v (by exact r_nilCheck rfl) rfl rfl rfl ?_
      -- R6.2 26 := kernel.go:125 fieldAddr
      refine WL.v (by exact r_field ty_fld120_1 rfl) rfl rfl rfl ?_
      -- R6.3 27 := kernel.go:125 load
      refine WL.v (by exact r_load1 (v := .pointer (some ⟨B.br, 0, none⟩)) ty_one107 rfl (V1.cr st)) rfl rfl rfl ?_
      -- R6.4 28 := kernel.go:125 move
      refine WL.v (by first | exact r_move (v := .int _ _) rfl | exact r_move rfl) rfl rfl rfl ?_
      -- R6.5 29 := kernel.go:125 move
      refine WL.v (by first | exact r_move (v := .int _ _) rfl | exact r_move rfl) rfl rfl rfl ?_
      -- R6.6 30 := kernel.go:125 call
      refine WL.call (r_call ty_call104 rfl) rfl rfl rfl (held_ok ht hr V1.r st) ?_
      rintro _ w ⟨rfl, st⟩
      -- R6.7 31 := kernel.go:125 binOp
      refine WL.v (by first | exact r_eql rfl rfl (decide_eq_true (by omega)) | exact r_eql rfl rfl (decide_eq_false (by omega)) | exact r_eql rfl rfl rfl) rfl rfl rfl ?_
      refine WL.fin hK861 (fun _ _ h => h) ?_
      refine WC.condF rfl rfl ?_
      refine WC.skipF hK860 (fun _ _ h => h) ?_
      refine WC.seq fun K862 hK862 => ?_
      refine WC.seq fun K863 hK863 => ?_
      -- region 8
      refine WC.region ?_
      -- R8.0 34 := kernel.go:128 move
      refine WL.v (by first | exact r_move (v := .int _ _) rfl | exact r_move rfl) rfl rfl rfl ?_
      -- R8.1 35 := kernel.go:128 binOp
      refine WL.v (by exact r_geq rfl rfl (decide_eq_true (by omega))) rfl rfl rfl ?_
      -- R8.2 36 := kernel.go:128 move
      refine WL.v (by first | exact r_move (v := .bool _) rfl | exact r_move rfl) rfl rfl rfl ?_
      -- R8.3 37 := kernel.go:128 move
      refine WL.v (by first | exact r_move (v := .pointer _) rfl | exact r_move rfl) rfl rfl rfl ?_
      -- R8.4 38 := kernel.go:128 move
      refine WL.v (by first | exact r_move (v := .int _ _) rfl | exact r_move rfl) rfl rfl rfl ?_
      -- R8.5 39 := kernel.go:128 nilCheck
      refine WL.v (by exact r_nilCheck rfl) rfl rfl rfl ?_
      -- R8.6 40 := kernel.go:128 fieldAddr
      refine WL.v (by exact r_field ty_fld120_3 rfl) rfl rfl rfl ?_
      -- R8.7 41 := kernel.go:128 indexAddr
      refine WL.v (by exact r_indexA ty_ar118 rfl rfl rfl (by omega)) rfl rfl rfl ?_
      -- R8.8 42 := kernel.go:128 fieldAddr
      refine WL.v (by exact r_field ty_fld117_6 rfl) rfl rfl rfl ?_
      -- R8.9 43 := kernel.go:128 move
      refine WL.v (by first | exact r_move (v := .int _ _) rfl | exact r_move rfl) rfl rfl rfl ?_
      -- R8.10 44 := kernel.go:128 binOp
      refine WL.v (by exact r_sub (r := ((r - 8 : Nat) : Int)) rfl rfl ((wi64 (by omega) (by omega)).trans (by omega))) rfl rfl rfl ?_
      -- R8.11 45 := kernel.go:128 call
      refine WL.call (r_call ty_call105 rfl) rfl rfl rfl (touches_ok (a := 0 + 3 + t * 135 + 6) (c := r - 8) V1.k ht (by omega) (hB.n t) st) ?_
      rintro _ w ⟨he, st⟩
      rw [hto] at he
      subst he
      -- R8.12 46 := kernel.go:128 pick
      refine WL.v (by first | exact r_pickT (v := .bool _) rfl rfl | exact r_pickF (v := .bool _) rfl rfl) rfl rfl rfl ?_
      refine WL.fin hK863 (fun _ _ h => h) ?_
      refine WC.condF rfl rfl ?_
      refine WC.skipF hK862 (fun _ _ h => h) ?_
      refine WC.seq fun K864 hK864 => ?_
      -- region 10
      refine WC.region ?_
      -- R10.0 49 := kernel.go:131 move
      refine WL.v (by first | exact r_move (v := .pointer _) rfl | exact r_move rfl) rfl rfl rfl ?_
      -- R10.1 50 := kernel.go:131 nilCheck
      refine WL.v (by exact r_nilCheck rfl) rfl rfl rfl ?_
      -- R10.2 51 := kernel.go:131 fieldAddr
      refine WL.v (by exact r_field ty_fld120_1 rfl) rfl rfl rfl ?_
      -- R10.3 52 := kernel.go:131 load
      refine WL.v (by exact r_load1 (v := .pointer (some ⟨B.br, 0, none⟩)) ty_one107 rfl (V1.cr st)) rfl rfl rfl ?_
      -- R10.4 53 := kernel.go:131 move
      refine WL.v (by first | exact r_move (v := .int _ _) rfl | exact r_move rfl) rfl rfl rfl ?_
      -- R10.5 54 := kernel.go:131 move
      refine WL.v (by first | exact r_move (v := .int _ _) rfl | exact r_move rfl) rfl rfl rfl ?_
      -- R10.6 55 := kernel.go:131 call
      obtain ⟨Y2, th, back2⟩ := (V1.same st).tab
      refine WL.call (r_call ty_call106 rfl) rfl rfl rfl (releaseT_ok ht hr th) ?_
      rintro _ w ⟨rfl, th⟩
      have st := back2 th
      refine WL.fin hK864 (fun _ _ h => h) ?_
      refine WC.seq fun K865 hK865 => ?_
      -- region 11
      refine WC.region ?_
      -- R11.0 56 := kernel.go:132 move
      refine WL.v (by first | exact r_move (v := .pointer _) rfl | exact r_move rfl) rfl rfl rfl ?_
      -- R11.1 57 := kernel.go:132 call
      refine WL.call (r_call ty_call107 rfl) rfl rfl rfl (wake_ok (hB.held' (upd2_le hB.held (Nat.zero_le _))) hN st) ?_
      rintro _ w ⟨rfl, st⟩
      refine WL.fin hK865 (fun _ _ h => h) ?_
      refine WC.seq fun K866 hK866 => ?_
      -- region 12
      refine WC.region ?_
      -- R12.0 58 := kernel.go:133 move
      refine WL.v (by first | exact r_move (v := .pointer _) rfl | exact r_move rfl) rfl rfl rfl ?_
      -- R12.1 59 := kernel.go:133 call
      refine WL.call (r_call ty_call88 rfl) rfl rfl rfl (done_ok st) ?_
      rintro _ w ⟨ovr, XO, hor, rfl, st⟩
      obtain ⟨ar, cr, br, rfl, -, -, -, -⟩ := hor.form
      obtain ⟨Yr, st, backr⟩ := KH.out (st.perm (List.perm_append_comm_assoc XO [_] l))
      -- R12.2 None := kernel.go:133 store
      first | refine WL.storeW (vs := [_, _, _]) st ty_agg34 rfl rfl rfl rfl rfl rfl ?_ | refine WL.storeL (vs := [_, _, _]) st ty_agg34 rfl rfl rfl rfl (by first | decide | omega) rfl rfl ?_ | refine WL.storeW (vs := [_, _, _]) st.front1 ty_agg34 rfl rfl rfl rfl rfl rfl ?_ | refine WL.storeL (vs := [_, _, _]) st.front1 ty_agg34 rfl rfl rfl rfl (by first | decide | omega) rfl rfl ?_ | refine WL.storeW (vs := [_, _, _]) st.front2 ty_agg34 rfl rfl rfl rfl rfl rfl ?_ | refine WL.storeL (vs := [_, _, _]) st.front2 ty_agg34 rfl rfl rfl rfl (by first | decide | omega) rfl rfl ?_ | refine WL.storeW (vs := [_, _, _]) st.front3 ty_agg34 rfl rfl rfl rfl rfl rfl ?_ | refine WL.storeL (vs := [_, _, _]) st.front3 ty_agg34 rfl rfl rfl rfl (by first | decide | omega) rfl rfl ?_ | refine WL.storeW (vs := [_, _, _]) st.front4 ty_agg34 rfl rfl rfl rfl rfl rfl ?_ | refine WL.storeL (vs := [_, _, _]) st.front4 ty_agg34 rfl rfl rfl rfl (by first | decide | omega) rfl rfl ?_ | refine WL.storeW (vs := [_, _, _]) st.front5 ty_agg34 rfl rfl rfl rfl rfl rfl ?_ | refine WL.storeL (vs := [_, _, _]) st.front5 ty_agg34 rfl rfl rfl rfl (by first | decide | omega) rfl rfl ?_ | refine WL.storeW (vs := [_, _, _]) st.front6 ty_agg34 rfl rfl rfl rfl rfl rfl ?_ | refine WL.storeL (vs := [_, _, _]) st.front6 ty_agg34 rfl rfl rfl rfl (by first | decide | omega) rfl rfl ?_ | refine WL.storeW (vs := [_, _, _]) st.front7 ty_agg34 rfl rfl rfl rfl rfl rfl ?_ | refine WL.storeL (vs := [_, _, _]) st.front7 ty_agg34 rfl rfl rfl rfl (by first | decide | omega) rfl rfl ?_ | refine WL.storeW (vs := [_, _, _]) st.front8 ty_agg34 rfl rfl rfl rfl rfl rfl ?_ | refine WL.storeL (vs := [_, _, _]) st.front8 ty_agg34 rfl rfl rfl rfl (by first | decide | omega) rfl rfl ?_
      intro w st
      refine WL.fin hK866 (fun _ _ h => h) ?_
      refine WC.retC (vs := [_, _, _]) Tryz.results82 (fun _ _ h => h) rfl ty_agg34 rfl ⟨(by first | assumption | exact st.c0 (by first | decide | omega) | exact st.c1 (by first | decide | omega) | exact st.c2 (by first | decide | omega) | exact st.c3 (by first | decide | omega) | exact st.c4 (by first | decide | omega) | exact st.c5 (by first | decide | omega) | exact st.c6 (by first | decide | omega) | exact st.c7 (by first | decide | omega) | exact st.c8 (by first | decide | omega)), (by first | assumption | exact st.c0 (by first | decide | omega) | exact st.c1 (by first | decide | omega) | exact st.c2 (by first | decide | omega) | exact st.c3 (by first | decide | omega) | exact st.c4 (by first | decide | omega) | exact st.c5 (by first | decide | omega) | exact st.c6 (by first | decide | omega) | exact st.c7 (by first | decide | omega) | exact st.c8 (by first | decide | omega)), (by first | assumption | exact st.c0 (by first | decide | omega) | exact st.c1 (by first | decide | omega) | exact st.c2 (by first | decide | omega) | exact st.c3 (by first | decide | omega) | exact st.c4 (by first | decide | omega) | exact st.c5 (by first | decide | omega) | exact st.c6 (by first | decide | omega) | exact st.c7 (by first | decide | omega) | exact st.c8 (by first | decide | omega)), trivial⟩ ?_
      rw [e]
      exact ⟨_, rfl, _, XO, hor, rfl, (backr st).drop⟩
  · skip
    have e : releaseP s (t : Nat) (r : Nat) = (wakeP { s with held := upd2 s.held t r 0 }, 0) := e3.trans (if_neg (by rintro ⟨h, _⟩; omega))
    refine enter [.pointer (some ⟨B.bk, 0, none⟩), .int .i64 (t : Nat), .int .i64 (r : Nat)] Tryz.func82 rfl Tryz.ntmps82 rfl ?_
    show WC _ _ _ 60 [] [(0, .pointer (some ⟨B.bk, 0, none⟩)), (1, .int .i64 (t : Nat)), (2, .int .i64 (r : Nat))] _
    refine WC.seq fun K867 hK867 => ?_
    -- region 0
    refine WC.region ?_
    -- R0.0 6 := kernel.go:118 alloc
    refine WL.alloc (m := 3) st ty_zero34 rfl rfl rfl ?_
    intro b6 w st
    refine WL.fin hK867 (fun _ _ h => h) ?_
    refine WC.seq fun K868 hK868 => ?_
    refine WC.seq fun K869 hK869 => ?_
    -- region 1
    refine WC.region ?_
    -- R1.0 8 := kernel.go:119 move
    refine WL.v (by first | exact r_move (v := .pointer _) rfl | exact r_move rfl) rfl rfl rfl ?_
    -- R1.1 9 := kernel.go:119 move
    refine WL.v (by first | exact r_move (v := .int _ _) rfl | exact r_move rfl) rfl rfl rfl ?_
    -- R1.2 10 := kernel.go:119 call
    have st : KH w0 B s (zR b6 :: l) w := V.back (I := [_]) st
    refine WL.call (r_call ty_call100 rfl) rfl rfl rfl (caller_ok (t := t) st) ?_
    rintro _ w ⟨rfl, st⟩
    -- R1.3 7 := kernel.go:119 assign
    refine WL.v (by exact r_assign (v := .int .i64 0) (congrArg (Value.int .i64) hc1)) rfl rfl rfl ?_
    refine WL.fin hK869 (fun _ _ h => h) ?_
    refine WC.seq fun K870 hK870 => ?_
    -- region 2
    refine WC.region ?_
    -- R2.0 11 := kernel.go:119 move
    refine WL.v (by first | exact r_move (v := .int _ _) rfl | exact r_move rfl) rfl rfl rfl ?_
    -- R2.1 12 := kernel.go:119 binOp
    refine WL.v (by first | exact r_neq rfl rfl (decide_eq_true (by omega)) | exact r_neq rfl rfl (decide_eq_false (by omega)) | exact r_neq rfl rfl rfl) rfl rfl rfl ?_
    refine WL.fin hK870 (fun _ _ h => h) ?_
    refine WC.condF rfl rfl ?_
    refine WC.skipF hK868 (fun _ _ h => h) ?_
    refine WC.seq fun K871 hK871 => ?_
    refine WC.seq fun K872 hK872 => ?_
    -- region 4
    refine WC.region ?_
    -- R4.0 16 := kernel.go:122 move
    refine WL.v (by first | exact r_move (v := .int _ _) rfl | exact r_move rfl) rfl rfl rfl ?_
    -- R4.1 17 := kernel.go:122 binOp
    refine WL.v (by first | exact r_lss rfl rfl (decide_eq_true (by omega)) | exact r_lss rfl rfl (decide_eq_false (by omega)) | exact r_lss rfl rfl rfl) rfl rfl rfl ?_
    -- R4.2 18 := kernel.go:122 move
    refine WL.v (by first | exact r_move (v := .bool _) rfl | exact r_move rfl) rfl rfl rfl ?_
    -- R4.3 19 := kernel.go:122 move
    refine WL.v (by first | exact r_move (v := .int _ _) rfl | exact r_move rfl) rfl rfl rfl ?_
    -- R4.4 20 := kernel.go:122 binOp
    refine WL.v (by first | exact r_geq rfl rfl (decide_eq_true (by omega)) | exact r_geq rfl rfl (decide_eq_false (by omega)) | exact r_geq rfl rfl rfl) rfl rfl rfl ?_
    -- R4.5 21 := kernel.go:122 pick
    refine WL.v (by first | exact r_pickT (v := .bool _) rfl rfl | exact r_pickF (v := .bool _) rfl rfl) rfl rfl rfl ?_
    refine WL.fin hK872 (fun _ _ h => h) ?_
    refine WC.condF rfl rfl ?_
    refine WC.skipF hK871 (fun _ _ h => h) ?_
    refine WC.seq fun K873 hK873 => ?_
    refine WC.seq fun K874 hK874 => ?_
    -- region 6
    obtain ⟨Y1, qv1, XQ1, tv1, ov1, V1, st⟩ := st.view
    refine WC.region ?_
    -- R6.0 24 := kernel.go:125 move
    refine WL.v (by first | exact r_move (v := .pointer _) rfl | exact r_move rfl) rfl rfl rfl ?_
    -- R6.1 25 := kernel.go:125 nilCheck
    refine WL.v (by exact r_nilCheck rfl) rfl rfl rfl ?_
    -- R6.2 26 := kernel.go:125 fieldAddr
    refine WL.v (by exact r_field ty_fld120_1 rfl) rfl rfl rfl ?_
    -- R6.3 27 := kernel.go:125 load
    refine WL.v (by exact r_load1 (v := .pointer (some ⟨B.br, 0, none⟩)) ty_one107 rfl (V1.cr st)) rfl rfl rfl ?_
    -- R6.4 28 := kernel.go:125 move
    refine WL.v (by first | exact r_move (v := .int _ _) rfl | exact r_move rfl) rfl rfl rfl ?_
    -- R6.5 29 := kernel.go:125 move
    refine WL.v (by first | exact r_move (v := .int _ _) rfl | exact r_move rfl) rfl rfl rfl ?_
    -- R6.6 30 := kernel.go:125 call
    refine WL.call (r_call ty_call104 rfl) rfl rfl rfl (held_ok ht hr V1.r st) ?_
    rintro _ w ⟨rfl, st⟩
    -- R6.7 31 := kernel.go:125 binOp
    refine WL.v (by first | exact r_eql rfl rfl (decide_eq_true (by omega)) | exact r_eql rfl rfl (decide_eq_false (by omega)) | exact r_eql rfl rfl rfl) rfl rfl rfl ?_
    refine WL.fin hK874 (fun _ _ h => h) ?_
    refine WC.condF rfl rfl ?_
    refine WC.skipF hK873 (fun _ _ h => h) ?_
    refine WC.seq fun K875 hK875 => ?_
    refine WC.seq fun K876 hK876 => ?_
    -- region 8
    refine WC.region ?_
    -- R8.0 34 := kernel.go:128 move
    refine WL.v (by first | exact r_move (v := .int _ _) rfl | exact r_move rfl) rfl rfl rfl ?_
    -- R8.1 35 := kernel.go:128 binOp
    refine WL.v (by exact r_geq rfl rfl (decide_eq_false (by omega))) rfl rfl rfl ?_
    -- R8.2 36 := kernel.go:128 move
    refine WL.v (by first | exact r_move (v := .bool _) rfl | exact r_move rfl) rfl rfl rfl ?_
    -- R8.3 37 := kernel.go:128 move
    refine WL.no rfl rfl ?_
    -- R8.4 38 := kernel.go:128 move
    refine WL.no rfl rfl ?_
    -- R8.5 39 := kernel.go:128 nilCheck
    refine WL.no rfl rfl ?_
    -- R8.6 40 := kernel.go:128 fieldAddr
    refine WL.no rfl rfl ?_
    -- R8.7 41 := kernel.go:128 indexAddr
    refine WL.no rfl rfl ?_
    -- R8.8 42 := kernel.go:128 fieldAddr
    refine WL.no rfl rfl ?_
    -- R8.9 43 := kernel.go:128 move
    refine WL.no rfl rfl ?_
    -- R8.10 44 := kernel.go:128 binOp
    refine WL.no rfl rfl ?_
    -- R8.11 45 := kernel.go:128 call
    refine WL.no rfl rfl ?_
    -- R8.12 46 := kernel.go:128 pick
    refine WL.v (by first | exact r_pickT (v := .bool _) rfl rfl | exact r_pickF (v := .bool _) rfl rfl) rfl rfl rfl ?_
    refine WL.fin hK876 (fun _ _ h => h) ?_
    refine WC.condF rfl rfl ?_
    refine WC.skipF hK875 (fun _ _ h => h) ?_
    refine WC.seq fun K877 hK877 => ?_
    -- region 10
    refine WC.region ?_
    -- R10.0 49 := kernel.go:131 move
    refine WL.v (by first | exact r_move (v := .pointer _) rfl | exact r_move rfl) rfl rfl rfl ?_
    -- R10.1 50 := kernel.go:131 nilCheck
    refine WL.v (by exact r_nilCheck rfl) rfl rfl rfl ?_
    -- R10.2 51 := kernel.go:131 fieldAddr
    refine WL.v (by exact r_field ty_fld120_1 rfl) rfl rfl rfl ?_
    -- R10.3 52 := kernel.go:131 load
    refine WL.v (by exact r_load1 (v := .pointer (some ⟨B.br, 0, none⟩)) ty_one107 rfl (V1.cr st)) rfl rfl rfl ?_
    -- R10.4 53 := kernel.go:131 move
    refine WL.v (by first | exact r_move (v := .int _ _) rfl | exact r_move rfl) rfl rfl rfl ?_
    -- R10.5 54 := kernel.go:131 move
    refine WL.v (by first | exact r_move (v := .int _ _) rfl | exact r_move rfl) rfl rfl rfl ?_
    -- R10.6 55 := kernel.go:131 call
    obtain ⟨Y2, th, back2⟩ := (V1.same st).tab
    refine WL.call (r_call ty_call106 rfl) rfl rfl rfl (releaseT_ok ht hr th) ?_
    rintro _ w ⟨rfl, th⟩
    have st := back2 th
    refine WL.fin hK877 (fun _ _ h => h) ?_
    refine WC.seq fun K878 hK878 => ?_
    -- region 11
    refine WC.region ?_
    -- R11.0 56 := kernel.go:132 move
    refine WL.v (by first | exact r_move (v := .pointer _) rfl | exact r_move rfl) rfl rfl rfl ?_
    -- R11.1 57 := kernel.go:132 call
    refine WL.call (r_call ty_call107 rfl) rfl rfl rfl (wake_ok (hB.held' (upd2_le hB.held (Nat.zero_le _))) hN st) ?_
    rintro _ w ⟨rfl, st⟩
    refine WL.fin hK878 (fun _ _ h => h) ?_
    refine WC.seq fun K879 hK879 => ?_
    -- region 12
    refine WC.region ?_
    -- R12.0 58 := kernel.go:133 move
    refine WL.v (by first | exact r_move (v := .pointer _) rfl | exact r_move rfl) rfl rfl rfl ?_
    -- R12.1 59 := kernel.go:133 call
    refine WL.call (r_call ty_call88 rfl) rfl rfl rfl (done_ok st) ?_
    rintro _ w ⟨ovr, XO, hor, rfl, st⟩
    obtain ⟨ar, cr, br, rfl, -, -, -, -⟩ := hor.form
    obtain ⟨Yr, st, backr⟩ := KH.out (st.perm (List.perm_append_comm_assoc XO [_] l))
    -- R12.2 None := kernel.go:133 store
    first | refine WL.storeW (vs := [_, _, _]) st ty_agg34 rfl rfl rfl rfl rfl rfl ?_ | refine WL.storeL (vs := [_, _, _]) st ty_agg34 rfl rfl rfl rfl (by first | decide | omega) rfl rfl ?_ | refine WL.storeW (vs := [_, _, _]) st.front1 ty_agg34 rfl rfl rfl rfl rfl rfl ?_ | refine WL.storeL (vs := [_, _, _]) st.front1 ty_agg34 rfl rfl rfl rfl (by first | decide | omega) rfl rfl ?_ | refine WL.storeW (vs := [_, _, _]) st.front2 ty_agg34 rfl rfl rfl rfl rfl rfl ?_ | refine WL.storeL (vs := [_, _, _]) st.front2 ty_agg34 rfl rfl rfl rfl (by first | decide | omega) rfl rfl ?_ | refine WL.storeW (vs := [_, _, _]) st.front3 ty_agg34 rfl rfl rfl rfl rfl rfl ?_ | refine WL.storeL (vs := [_, _, _]) st.front3 ty_agg34 rfl rfl rfl rfl (by first | decide | omega) rfl rfl ?_ | refine WL.storeW (vs := [_, _, _]) st.front4 ty_agg34 rfl rfl rfl rfl rfl rfl ?_ | refine WL.storeL (vs := [_, _, _]) st.front4 ty_agg34 rfl rfl rfl rfl (by first | decide | omega) rfl rfl ?_ | refine WL.storeW (vs := [_, _, _]) st.front5 ty_agg34 rfl rfl rfl rfl rfl rfl ?_ | refine WL.storeL (vs := [_, _, _]) st.front5 ty_agg34 rfl rfl rfl rfl (by first | decide | omega) rfl rfl ?_ | refine WL.storeW (vs := [_, _, _]) st.front6 ty_agg34 rfl rfl rfl rfl rfl rfl ?_ | refine WL.storeL (vs := [_, _, _]) st.front6 ty_agg34 rfl rfl rfl rfl (by first | decide | omega) rfl rfl ?_ | refine WL.storeW (vs := [_, _, _]) st.front7 ty_agg34 rfl rfl rfl rfl rfl rfl ?_ | refine WL.storeL (vs := [_, _, _]) st.front7 ty_agg34 rfl rfl rfl rfl (by first | decide | omega) rfl rfl ?_ | refine WL.storeW (vs := [_, _, _]) st.front8 ty_agg34 rfl rfl rfl rfl rfl rfl ?_ | refine WL.storeL (vs := [_, _, _]) st.front8 ty_agg34 rfl rfl rfl rfl (by first | decide | omega) rfl rfl ?_
    intro w st
    refine WL.fin hK879 (fun _ _ h => h) ?_
    refine WC.retC (vs := [_, _, _]) Tryz.results82 (fun _ _ h => h) rfl ty_agg34 rfl ⟨(by first | assumption | exact st.c0 (by first | decide | omega) | exact st.c1 (by first | decide | omega) | exact st.c2 (by first | decide | omega) | exact st.c3 (by first | decide | omega) | exact st.c4 (by first | decide | omega) | exact st.c5 (by first | decide | omega) | exact st.c6 (by first | decide | omega) | exact st.c7 (by first | decide | omega) | exact st.c8 (by first | decide | omega)), (by first | assumption | exact st.c0 (by first | decide | omega) | exact st.c1 (by first | decide | omega) | exact st.c2 (by first | decide | omega) | exact st.c3 (by first | decide | omega) | exact st.c4 (by first | decide | omega) | exact st.c5 (by first | decide | omega) | exact st.c6 (by first | decide | omega) | exact st.c7 (by first | decide | omega) | exact st.c8 (by first | decide | omega)), (by first | assumption | exact st.c0 (by first | decide | omega) | exact st.c1 (by first | decide | omega) | exact st.c2 (by first | decide | omega) | exact st.c3 (by first | decide | omega) | exact st.c4 (by first | decide | omega) | exact st.c5 (by first | decide | omega) | exact st.c6 (by first | decide | omega) | exact st.c7 (by first | decide | omega) | exact st.c8 (by first | decide | omega)), trivial⟩ ?_
    rw [e]
    exact ⟨_, rfl, _, XO, hor, rfl, (backr st).drop⟩

def exitS (s : KS) (t : Nat) : KS := { s with held := zapRow s.held t, claim := zapRow s.claim t, tk := updN s.tk t { tk0 with epoch := inc64 (s.tk t).epoch } }
def exitP (s : KS) (t : Int) : KS × Int := if callerP s t ≠ 0 then (s, callerP s t) else (wakeP (exitS s t.toNat), 0)
theorem KB.exitS (h : KB N s) : KB N (exitS s t) where
  held := zapRow_le h.held
  claim := zapRow_le h.claim
  qt := h.qt
  n := updTK_n h.n (Nat.zero_le _)
  ec := updTK_ec h.ec (fun _ => (by decide : 0 < 12))
  tt := h.tt
  td := h.td
  ta := h.ta
  tn := h.tn
  nn := h.nn
theorem zero117 : zeroL Tryz.prog 117 = some ((List.range 135).map (tkF tk0)) := by kernel_rfl
theorem tkF_new {T : TK} (h : T.n = 0 ∧ T.ec = (fun _ => 0) ∧ T.eo = (fun _ => 0) ∧ T.waiting = false ∧ T.timer = 0 ∧ T.deadline = 0) : ∀ i, i < 135 → upds (upds (upds (tkF tk0) 0 1 fun _ => .bool T.live) 1 1 fun _ => .int .u64 (T.birth : Nat)) 2 1 (fun _ => .int .u64 (T.epoch : Nat)) i = tkF T i := fun i hi => by
  obtain ⟨h1, h2, h3, h4, h5, h6⟩ := h
  by_cases h7 : i < 7
  · match i with
    | 0 | 1 | 2 => rfl
    | 3 => show Value.bool false = Value.bool T.waiting; rw [h4]
    | 4 => show Value.int .u64 ((0 : Nat) : Int) = Value.int .u64 (T.timer : Nat); rw [h5]
    | 5 => show Value.int .u64 ((0 : Nat) : Int) = Value.int .u64 (T.deadline : Nat); rw [h6]
    | 6 => show Value.int .i64 ((0 : Nat) : Int) = Value.int .i64 (T.n : Nat); rw [h1]
    | i + 7 => omega
  · rw [upds_eq, if_neg (by omega), upds_eq, if_neg (by omega), upds_eq, if_neg (by omega)]
    unfold tkF
    rw [if_neg h7, if_neg h7, h2, h3]; rfl
set_option maxHeartbeats 2000000 in
theorem exit_ok {t : Int} (hB : KB N s) (hN : N ≤ 1000000) (st : KH w0 B s l w) :
    Calls Tryz.prog 85 #[.pointer (some ⟨B.bk, 0, none⟩), .int .i64 t] w (Ret fun v w' => RK w0 B (exitP s t).1 (exitP s t).2 (-1) l v w') := by
  obtain ⟨Y, qv, XQ, tv, ov, V, st⟩ := st.view
  by_cases hc1 : callerP s t ≠ 0
  · have e : exitP s t = (s, callerP s t) := if_pos hc1
    refine enter [.pointer (some ⟨B.bk, 0, none⟩), .int .i64 t] Tryz.func85 rfl Tryz.ntmps85 rfl ?_
    show WC _ _ _ 41 [] [(0, .pointer (some ⟨B.bk, 0, none⟩)), (1, .int .i64 t)] _
    refine WC.seq fun K880 hK880 => ?_
    -- region 0
    refine WC.region ?_
    -- R0.0 4 := kernel.go:168 alloc
    refine WL.alloc (m := 3) st ty_zero34 rfl rfl rfl ?_
    intro b4 w st
    refine WL.fin hK880 (fun _ _ h => h) ?_
    refine WC.seq fun K881 hK881 => ?_
    refine WC.seq fun K882 hK882 => ?_
    -- region 1
    refine WC.region ?_
    -- R1.0 6 := kernel.go:169 move
    refine WL.v (by first | exact r_move (v := .pointer _) rfl | exact r_move rfl) rfl rfl rfl ?_
    -- R1.1 7 := kernel.go:169 move
    refine WL.v (by first | exact r_move (v := .int _ _) rfl | exact r_move rfl) rfl rfl rfl ?_
    -- R1.2 8 := kernel.go:169 call
    have st : KH w0 B s (zR b4 :: l) w := V.back (I := [_]) st
    refine WL.call (r_call ty_call100 rfl) rfl rfl rfl (caller_ok (t := t) st) ?_
    rintro _ w ⟨rfl, st⟩
    -- R1.3 5 := kernel.go:169 assign
    refine WL.v (by first | exact r_assign (v := .int _ _) rfl | exact r_assign rfl) rfl rfl rfl ?_
    refine WL.fin hK882 (fun _ _ h => h) ?_
    refine WC.seq fun K883 hK883 => ?_
    -- region 2
    refine WC.region ?_
    -- R2.0 9 := kernel.go:169 move
    refine WL.v (by first | exact r_move (v := .int _ _) rfl | exact r_move rfl) rfl rfl rfl ?_
    -- R2.1 10 := kernel.go:169 binOp
    refine WL.v (by first | exact r_neq rfl rfl (decide_eq_true (by omega)) | exact r_neq rfl rfl (decide_eq_false (by omega)) | exact r_neq rfl rfl rfl) rfl rfl rfl ?_
    refine WL.fin hK883 (fun _ _ h => h) ?_
    refine WC.condT rfl rfl ?_
    refine WC.seq fun K884 hK884 => ?_
    -- region 3
    refine WC.region ?_
    -- R3.0 11 := kernel.go:170 move
    refine WL.v (by first | exact r_move (v := .pointer _) rfl | exact r_move rfl) rfl rfl rfl ?_
    -- R3.1 12 := kernel.go:170 move
    refine WL.v (by first | exact r_move (v := .int _ _) rfl | exact r_move rfl) rfl rfl rfl ?_
    -- R3.2 13 := kernel.go:170 call
    refine WL.call (r_call ty_call88 rfl) rfl rfl rfl (done_ok st) ?_
    rintro _ w ⟨ovr, XO, hor, rfl, st⟩
    obtain ⟨ar, cr, br, rfl, -, -, -, -⟩ := hor.form
    obtain ⟨Yr, st, backr⟩ := KH.out (st.perm (List.perm_append_comm_assoc XO [_] l))
    -- R3.3 None := kernel.go:170 store
    first | refine WL.storeW (vs := [_, _, _]) st ty_agg34 rfl rfl rfl rfl rfl rfl ?_ | refine WL.storeL (vs := [_, _, _]) st ty_agg34 rfl rfl rfl rfl (by first | decide | omega) rfl rfl ?_ | refine WL.storeW (vs := [_, _, _]) st.front1 ty_agg34 rfl rfl rfl rfl rfl rfl ?_ | refine WL.storeL (vs := [_, _, _]) st.front1 ty_agg34 rfl rfl rfl rfl (by first | decide | omega) rfl rfl ?_ | refine WL.storeW (vs := [_, _, _]) st.front2 ty_agg34 rfl rfl rfl rfl rfl rfl ?_ | refine WL.storeL (vs := [_, _, _]) st.front2 ty_agg34 rfl rfl rfl rfl (by first | decide | omega) rfl rfl ?_ | refine WL.storeW (vs := [_, _, _]) st.front3 ty_agg34 rfl rfl rfl rfl rfl rfl ?_ | refine WL.storeL (vs := [_, _, _]) st.front3 ty_agg34 rfl rfl rfl rfl (by first | decide | omega) rfl rfl ?_ | refine WL.storeW (vs := [_, _, _]) st.front4 ty_agg34 rfl rfl rfl rfl rfl rfl ?_ | refine WL.storeL (vs := [_, _, _]) st.front4 ty_agg34 rfl rfl rfl rfl (by first | decide | omega) rfl rfl ?_ | refine WL.storeW (vs := [_, _, _]) st.front5 ty_agg34 rfl rfl rfl rfl rfl rfl ?_ | refine WL.storeL (vs := [_, _, _]) st.front5 ty_agg34 rfl rfl rfl rfl (by first | decide | omega) rfl rfl ?_ | refine WL.storeW (vs := [_, _, _]) st.front6 ty_agg34 rfl rfl rfl rfl rfl rfl ?_ | refine WL.storeL (vs := [_, _, _]) st.front6 ty_agg34 rfl rfl rfl rfl (by first | decide | omega) rfl rfl ?_ | refine WL.storeW (vs := [_, _, _]) st.front7 ty_agg34 rfl rfl rfl rfl rfl rfl ?_ | refine WL.storeL (vs := [_, _, _]) st.front7 ty_agg34 rfl rfl rfl rfl (by first | decide | omega) rfl rfl ?_ | refine WL.storeW (vs := [_, _, _]) st.front8 ty_agg34 rfl rfl rfl rfl rfl rfl ?_ | refine WL.storeL (vs := [_, _, _]) st.front8 ty_agg34 rfl rfl rfl rfl (by first | decide | omega) rfl rfl ?_
    intro w st
    refine WL.fin hK884 (fun _ _ h => h) ?_
    refine WC.retC (vs := [_, _, _]) Tryz.results85 (fun _ _ h => h) rfl ty_agg34 rfl ⟨(by first | assumption | exact st.c0 (by first | decide | omega) | exact st.c1 (by first | decide | omega) | exact st.c2 (by first | decide | omega) | exact st.c3 (by first | decide | omega) | exact st.c4 (by first | decide | omega) | exact st.c5 (by first | decide | omega) | exact st.c6 (by first | decide | omega) | exact st.c7 (by first | decide | omega) | exact st.c8 (by first | decide | omega)), (by first | assumption | exact st.c0 (by first | decide | omega) | exact st.c1 (by first | decide | omega) | exact st.c2 (by first | decide | omega) | exact st.c3 (by first | decide | omega) | exact st.c4 (by first | decide | omega) | exact st.c5 (by first | decide | omega) | exact st.c6 (by first | decide | omega) | exact st.c7 (by first | decide | omega) | exact st.c8 (by first | decide | omega)), (by first | assumption | exact st.c0 (by first | decide | omega) | exact st.c1 (by first | decide | omega) | exact st.c2 (by first | decide | omega) | exact st.c3 (by first | decide | omega) | exact st.c4 (by first | decide | omega) | exact st.c5 (by first | decide | omega) | exact st.c6 (by first | decide | omega) | exact st.c7 (by first | decide | omega) | exact st.c8 (by first | decide | omega)), trivial⟩ ?_
    rw [e]
    exact ⟨_, rfl, _, XO, hor, rfl, (backr st).drop⟩
  have hc1 : callerP s t = 0 := Classical.not_not.1 hc1
  obtain ⟨ht0, ht16⟩ := callerP_ok hc1
  obtain ⟨t, rfl⟩ : ∃ n : Nat, t = n := ⟨t.toNat, by omega⟩
  have ht : t < 16 := by omega
  have e : exitP s (t : Nat) = (wakeP (exitS s t), 0) := by unfold exitP; rw [if_neg (fun h => h hc1), Int.toNat_natCast]
  refine enter [.pointer (some ⟨B.bk, 0, none⟩), .int .i64 (t : Nat)] Tryz.func85 rfl Tryz.ntmps85 rfl ?_
  show WC _ _ _ 41 [] [(0, .pointer (some ⟨B.bk, 0, none⟩)), (1, .int .i64 (t : Nat))] _
  refine WC.seq fun K885 hK885 => ?_
  -- region 0
  refine WC.region ?_
  -- R0.0 4 := kernel.go:168 alloc
  refine WL.alloc (m := 3) st ty_zero34 rfl rfl rfl ?_
  intro b4 w st
  refine WL.fin hK885 (fun _ _ h => h) ?_
  refine WC.seq fun K886 hK886 => ?_
  refine WC.seq fun K887 hK887 => ?_
  -- region 1
  refine WC.region ?_
  -- R1.0 6 := kernel.go:169 move
  refine WL.v (by first | exact r_move (v := .pointer _) rfl | exact r_move rfl) rfl rfl rfl ?_
  -- R1.1 7 := kernel.go:169 move
  refine WL.v (by first | exact r_move (v := .int _ _) rfl | exact r_move rfl) rfl rfl rfl ?_
  -- R1.2 8 := kernel.go:169 call
  have st : KH w0 B s (zR b4 :: l) w := V.back (I := [_]) st
  refine WL.call (r_call ty_call100 rfl) rfl rfl rfl (caller_ok (t := t) st) ?_
  rintro _ w ⟨rfl, st⟩
  -- R1.3 5 := kernel.go:169 assign
  refine WL.v (by exact r_assign (v := .int .i64 0) (congrArg (Value.int .i64) hc1)) rfl rfl rfl ?_
  refine WL.fin hK887 (fun _ _ h => h) ?_
  refine WC.seq fun K888 hK888 => ?_
  -- region 2
  refine WC.region ?_
  -- R2.0 9 := kernel.go:169 move
  refine WL.v (by first | exact r_move (v := .int _ _) rfl | exact r_move rfl) rfl rfl rfl ?_
  -- R2.1 10 := kernel.go:169 binOp
  refine WL.v (by first | exact r_neq rfl rfl (decide_eq_true (by omega)) | exact r_neq rfl rfl (decide_eq_false (by omega)) | exact r_neq rfl rfl rfl) rfl rfl rfl ?_
  refine WL.fin hK888 (fun _ _ h => h) ?_
  refine WC.condF rfl rfl ?_
  refine WC.skipF hK886 (fun _ _ h => h) ?_
  refine WC.seq fun K889 hK889 => ?_
  -- region 4
  refine WC.region ?_
  -- R4.0 14 := kernel.go:172 move
  refine WL.v (by first | exact r_move (v := .pointer _) rfl | exact r_move rfl) rfl rfl rfl ?_
  -- R4.1 15 := kernel.go:172 move
  refine WL.v (by first | exact r_move (v := .int _ _) rfl | exact r_move rfl) rfl rfl rfl ?_
  -- R4.2 16 := kernel.go:172 call
  refine WL.call (r_call ty_call111 rfl) rfl rfl rfl (releaseAll_ok ht st) ?_
  rintro _ w ⟨rfl, st⟩
  refine WL.fin hK889 (fun _ _ h => h) ?_
  refine WC.seq fun K890 hK890 => ?_
  -- region 5
  obtain ⟨Y1, qv1, XQ1, tv1, ov1, V1, st⟩ := st.view
  refine WC.region ?_
  -- R5.0 17 := kernel.go:173 move
  refine WL.v (by first | exact r_move (v := .pointer _) rfl | exact r_move rfl) rfl rfl rfl ?_
  -- R5.1 18 := kernel.go:173 nilCheck
  refine WL.v (by exact r_nilCheck rfl) rfl rfl rfl ?_
  -- R5.2 19 := kernel.go:173 fieldAddr
  refine WL.v (by exact r_field ty_fld120_2 rfl) rfl rfl rfl ?_
  -- R5.3 20 := kernel.go:173 load
  refine WL.v (by exact r_load1 (v := .pointer (some ⟨B.bp, 0, none⟩)) ty_one109 rfl (V1.cp st)) rfl rfl rfl ?_
  -- R5.4 21 := kernel.go:173 move
  refine WL.v (by first | exact r_move (v := .int _ _) rfl | exact r_move rfl) rfl rfl rfl ?_
  -- R5.5 22 := kernel.go:173 call
  obtain ⟨Y2, st, back2⟩ := (V1.same st).pol
  refine WL.call (r_call ty_call112 rfl) rfl rfl rfl (forgetP_ok ht st) ?_
  rintro _ w ⟨rfl, st⟩
  have st := back2 st
  obtain ⟨ov3, Y3, st, back3⟩ := st.ker
  refine WL.fin hK890 (fun _ _ h => h) ?_
  refine WC.seq fun K891 hK891 => ?_
  -- region 6 (draws)
  refine WC.tailS 14 st ty_mixed (by kernel_rfl) fun w st Kq hKq => ?_
  -- R6.0 23 := kernel.go:174 move
  refine SL.v (by first | exact r_move (v := .pointer _) rfl | exact r_move rfl) rfl rfl rfl ?_
  -- R6.1 24 := kernel.go:174 move
  refine SL.v (by first | exact r_move (v := .int _ _) rfl | exact r_move rfl) rfl rfl rfl ?_
  -- R6.2 25 := kernel.go:174 move
  refine SL.v (by first | exact r_move (v := .pointer _) rfl | exact r_move rfl) rfl rfl rfl ?_
  -- R6.3 26 := kernel.go:174 move
  refine SL.v (by first | exact r_move (v := .int _ _) rfl | exact r_move rfl) rfl rfl rfl ?_
  -- R6.4 27 := kernel.go:174 nilCheck
  refine SL.v (by exact r_nilCheck rfl) rfl rfl rfl ?_
  -- R6.5 28 := kernel.go:174 fieldAddr
  refine SL.v (by exact r_field ty_fld120_3 rfl) rfl rfl rfl ?_
  -- R6.6 29 := kernel.go:174 indexAddr
  refine SL.v (by exact r_indexA ty_ar118 rfl rfl rfl (by omega)) rfl rfl rfl ?_
  -- R6.7 30 := kernel.go:174 fieldAddr
  refine SL.v (by exact r_field ty_fld117_2 rfl) rfl rfl rfl ?_
  -- R6.8 31 := kernel.go:174 load
  refine SL.v (by exact r_load1 (v := .int .u64 ((s.tk t).epoch : Nat)) ty_one26 rfl (c_tk List.mem_cons_self ht (j := 2) (by decide) (by omega) st)) rfl rfl rfl ?_
  -- R6.9 32 := kernel.go:174 binOp
  refine SL.v (by exact r_add (r := ((inc64 (s.tk t).epoch : Nat) : Int)) rfl rfl (by show (((s.tk t).epoch : Nat) + 1 : Int) % 18446744073709551616 = (((s.tk t).epoch + 1) % 18446744073709551616 : Nat); omega)) rfl rfl rfl ?_
  -- R6.10 33 := kernel.go:174 build
  refine SL.v (by exact r_buildN (n := 135) (z := tkF tk0) (v := upds (tkF tk0) 2 1 fun _ => .int .u64 (inc64 (s.tk t).epoch : Nat)) (ps := [(2, .int .u64 (inc64 (s.tk t).epoch : Nat))]) ty_pl117 zero117 rfl (fill_stepN (p := fun _ => .int .u64 (inc64 (s.tk t).epoch : Nat)) rfl rfl (by decide) fill_nil)) rfl rfl rfl ?_
  -- R6.11 34 := kernel.go:174 nilCheck
  refine SL.v (by exact r_nilCheck rfl) rfl rfl rfl ?_
  -- R6.12 35 := kernel.go:174 fieldAddr
  refine SL.v (by exact r_field ty_fld120_3 rfl) rfl rfl rfl ?_
  -- R6.13 36 := kernel.go:174 indexAddr
  refine SL.v (by exact r_indexA ty_ar118 rfl rfl rfl (by omega)) rfl rfl rfl ?_
  refine SL.fin hKq ?_
  -- R6.14 None := kernel.go:174 store
  refine WL.storeN st ty_agg117 rfl rfl (fun i hi => by rw [upds_eq]; split; rfl; unfold tkF; split; (match i with | 0 | 1 | 2 | 3 | 4 | 5 | 6 => rfl | i + 7 => omega); split <;> rfl) (by omega) rfl rfl ?_
  intro w st
  have st := stE (kF_setB (T' := { tk0 with epoch := inc64 (s.tk t).epoch }) ht (fun i hi => by rw [← tkF_new (T := { tk0 with epoch := inc64 (s.tk t).epoch }) ⟨rfl, rfl, rfl, rfl, rfl, rfl⟩ i hi, upds_eq, upds_eq]; split; rfl; rw [upds_eq]; split; (obtain rfl : i = 1 := by omega); rfl; rw [upds_eq]; split; (obtain rfl : i = 0 := by omega); rfl; rfl)) st
  have st : KH w0 B (exitS s t) (zR b4 :: l) w := back3 st
  refine WL.fin hK891 (fun _ _ h => h) ?_
  refine WC.seq fun K892 hK892 => ?_
  -- region 7
  refine WC.region ?_
  -- R7.0 37 := kernel.go:175 move
  refine WL.v (by first | exact r_move (v := .pointer _) rfl | exact r_move rfl) rfl rfl rfl ?_
  -- R7.1 38 := kernel.go:175 call
  refine WL.call (r_call ty_call107 rfl) rfl rfl rfl (wake_ok hB.exitS hN st) ?_
  rintro _ w ⟨rfl, st⟩
  refine WL.fin hK892 (fun _ _ h => h) ?_
  refine WC.seq fun K893 hK893 => ?_
  -- region 8
  refine WC.region ?_
  -- R8.0 39 := kernel.go:176 move
  refine WL.v (by first | exact r_move (v := .pointer _) rfl | exact r_move rfl) rfl rfl rfl ?_
  -- R8.1 40 := kernel.go:176 call
  refine WL.call (r_call ty_call88 rfl) rfl rfl rfl (done_ok st) ?_
  rintro _ w ⟨ovr, XO, hor, rfl, st⟩
  obtain ⟨ar, cr, br, rfl, -, -, -, -⟩ := hor.form
  obtain ⟨Yr, st, backr⟩ := KH.out (st.perm (List.perm_append_comm_assoc XO [_] l))
  -- R8.2 None := kernel.go:176 store
  first | refine WL.storeW (vs := [_, _, _]) st ty_agg34 rfl rfl rfl rfl rfl rfl ?_ | refine WL.storeL (vs := [_, _, _]) st ty_agg34 rfl rfl rfl rfl (by first | decide | omega) rfl rfl ?_ | refine WL.storeW (vs := [_, _, _]) st.front1 ty_agg34 rfl rfl rfl rfl rfl rfl ?_ | refine WL.storeL (vs := [_, _, _]) st.front1 ty_agg34 rfl rfl rfl rfl (by first | decide | omega) rfl rfl ?_ | refine WL.storeW (vs := [_, _, _]) st.front2 ty_agg34 rfl rfl rfl rfl rfl rfl ?_ | refine WL.storeL (vs := [_, _, _]) st.front2 ty_agg34 rfl rfl rfl rfl (by first | decide | omega) rfl rfl ?_ | refine WL.storeW (vs := [_, _, _]) st.front3 ty_agg34 rfl rfl rfl rfl rfl rfl ?_ | refine WL.storeL (vs := [_, _, _]) st.front3 ty_agg34 rfl rfl rfl rfl (by first | decide | omega) rfl rfl ?_ | refine WL.storeW (vs := [_, _, _]) st.front4 ty_agg34 rfl rfl rfl rfl rfl rfl ?_ | refine WL.storeL (vs := [_, _, _]) st.front4 ty_agg34 rfl rfl rfl rfl (by first | decide | omega) rfl rfl ?_ | refine WL.storeW (vs := [_, _, _]) st.front5 ty_agg34 rfl rfl rfl rfl rfl rfl ?_ | refine WL.storeL (vs := [_, _, _]) st.front5 ty_agg34 rfl rfl rfl rfl (by first | decide | omega) rfl rfl ?_ | refine WL.storeW (vs := [_, _, _]) st.front6 ty_agg34 rfl rfl rfl rfl rfl rfl ?_ | refine WL.storeL (vs := [_, _, _]) st.front6 ty_agg34 rfl rfl rfl rfl (by first | decide | omega) rfl rfl ?_ | refine WL.storeW (vs := [_, _, _]) st.front7 ty_agg34 rfl rfl rfl rfl rfl rfl ?_ | refine WL.storeL (vs := [_, _, _]) st.front7 ty_agg34 rfl rfl rfl rfl (by first | decide | omega) rfl rfl ?_ | refine WL.storeW (vs := [_, _, _]) st.front8 ty_agg34 rfl rfl rfl rfl rfl rfl ?_ | refine WL.storeL (vs := [_, _, _]) st.front8 ty_agg34 rfl rfl rfl rfl (by first | decide | omega) rfl rfl ?_
  intro w st
  refine WL.fin hK893 (fun _ _ h => h) ?_
  refine WC.retC (vs := [_, _, _]) Tryz.results85 (fun _ _ h => h) rfl ty_agg34 rfl ⟨(by first | assumption | exact st.c0 (by first | decide | omega) | exact st.c1 (by first | decide | omega) | exact st.c2 (by first | decide | omega) | exact st.c3 (by first | decide | omega) | exact st.c4 (by first | decide | omega) | exact st.c5 (by first | decide | omega) | exact st.c6 (by first | decide | omega) | exact st.c7 (by first | decide | omega) | exact st.c8 (by first | decide | omega)), (by first | assumption | exact st.c0 (by first | decide | omega) | exact st.c1 (by first | decide | omega) | exact st.c2 (by first | decide | omega) | exact st.c3 (by first | decide | omega) | exact st.c4 (by first | decide | omega) | exact st.c5 (by first | decide | omega) | exact st.c6 (by first | decide | omega) | exact st.c7 (by first | decide | omega) | exact st.c8 (by first | decide | omega)), (by first | assumption | exact st.c0 (by first | decide | omega) | exact st.c1 (by first | decide | omega) | exact st.c2 (by first | decide | omega) | exact st.c3 (by first | decide | omega) | exact st.c4 (by first | decide | omega) | exact st.c5 (by first | decide | omega) | exact st.c6 (by first | decide | omega) | exact st.c7 (by first | decide | omega) | exact st.c8 (by first | decide | omega)), trivial⟩ ?_
  rw [e]
  exact ⟨_, rfl, _, XO, hor, rfl, (backr st).drop⟩
end Go.Proofs.Qxb6500834aGreatDoor

