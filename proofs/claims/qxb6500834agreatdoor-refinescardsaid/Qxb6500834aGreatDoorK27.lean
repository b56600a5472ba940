import Derived.Test.Qxb6500834aGreatDoorK26
set_option linter.unusedVariables false
set_option linter.unusedSimpArgs false
set_option maxRecDepth 20000
namespace Go.Proofs.Qxb6500834aGreatDoor
open Go.RowKit Go.E1 Go.Kern
variable {w0 : World} {L L' l I J K K' X Y : List HI} {w : World} {s : KS} {B : KA} {t r N : Nat}


/-! Where the kernel's three parts lie: that stays through every call. -/
def PK (B : KA) (o : Obj) : Prop := ∃ tk cells births ov, Row 120 2177 (kF B.bm B.br B.bp tk cells births ov) o
abbrev pkI (B : KA) : HI := (B.bk, PK B)
theorem KH.pk (h : KH w0 B s l w) : S0 w0 [pkI B] w := by
  obtain ⟨qv, XQ, tv, XT, ov, XO, hq, ht, ho, st⟩ := h
  exact (st.sublist (List.singleton_sublist.2 List.mem_cons_self)).impc fun o h => ⟨_, _, _, _, h⟩
theorem c_pk {j : Nat} (st : S0 w0 [pkI B] w) (hj : j < 3) : w.cell? ⟨B.bk, 0 + j, none⟩ = some (nth [.pointer (some ⟨B.bm, 0, none⟩), .pointer (some ⟨B.br, 0, none⟩), .pointer (some ⟨B.bp, 0, none⟩)] j) := by
  obtain ⟨o, h1, tk, cells, births, ov, h2⟩ := st.get (pkI B) (List.mem_singleton.2 rfl)
  have st' : S0 w0 [kR B.bk B.bm B.br B.bp tk cells births ov] w := ⟨st.os, st.tape, st.output, st.size, st.kept, by simp, fun it hi => by rw [List.mem_singleton] at hi; subst hi; exact ⟨o, h1, h2⟩, fun it hi => by rw [List.mem_singleton] at hi; subst hi; exact st.own (pkI B) (List.mem_singleton.2 rfl)⟩
  rw [st'.c0 (by omega), Nat.zero_add]
  unfold kF
  rw [if_pos hj]

def anyLive (s : KS) : Bool := (List.range 16).any fun t => (s.tk t).live
def setModeP (s : KS) (m : Int) : KS × Int := if m < 0 ∨ 4 ≤ m then (s, 7) else if anyLive s then (s, 8) else ({ s with mode := m.toNat }, 0)
set_option maxHeartbeats 2000000 in
theorem setMode_ok {m : Int} (st : KH w0 B s l w) :
    Calls Tryz.prog 76 #[.pointer (some ⟨B.bk, 0, none⟩), .int .i64 m] w (Ret fun v w' => RK w0 B (setModeP s m).1 (setModeP s m).2 (-1) l v w') := by
  obtain ⟨Y, qv, XQ, tv, ov, V, st⟩ := st.view
  by_cases hc0 : m < 0
  · have e : setModeP s m = (s, 7) := if_pos (.inl hc0)
    refine enter [.pointer (some ⟨B.bk, 0, none⟩), .int .i64 m] Tryz.func76 rfl Tryz.ntmps76 rfl ?_
    show WC _ _ _ 36 [] [(0, .pointer (some ⟨B.bk, 0, none⟩)), (1, .int .i64 m)] _
    refine WC.seq fun K894 hK894 => ?_
    -- region 0
    refine WC.region ?_
    -- R0.0 4 := kernel.go:73 alloc
    refine WL.alloc (m := 3) st ty_zero34 rfl rfl rfl ?_
    intro b4 w st
    refine WL.fin hK894 (fun _ _ h => h) ?_
    refine WC.seq fun K895 hK895 => ?_
    refine WC.seq fun K896 hK896 => ?_
    -- region 1
    refine WC.region ?_
    -- R1.0 6 := kernel.go:74 move
    refine WL.v (by first | exact r_move (v := .int _ _) rfl | exact r_move rfl) rfl rfl rfl ?_
    -- R1.1 7 := kernel.go:74 binOp
    refine WL.v (by first | exact r_lss rfl rfl (decide_eq_true (by omega)) | exact r_lss rfl rfl (decide_eq_false (by omega)) | exact r_lss rfl rfl rfl) rfl rfl rfl ?_
    -- R1.2 8 := kernel.go:74 move
    refine WL.v (by first | exact r_move (v := .bool _) rfl | exact r_move rfl) rfl rfl rfl ?_
    -- R1.3 9 := kernel.go:74 move
    refine WL.no rfl rfl ?_
    -- R1.4 10 := kernel.go:74 binOp
    refine WL.no rfl rfl ?_
    -- R1.5 11 := kernel.go:74 pick
    refine WL.v (by first | exact r_pickT (v := .bool _) rfl rfl | exact r_pickF (v := .bool _) rfl rfl) rfl rfl rfl ?_
    refine WL.fin hK896 (fun _ _ h => h) ?_
    refine WC.condT rfl rfl ?_
    refine WC.seq fun K897 hK897 => ?_
    -- region 2
    refine WC.region ?_
    -- R2.0 12 := kernel.go:75 move
    refine WL.v (by first | exact r_move (v := .pointer _) rfl | exact r_move rfl) rfl rfl rfl ?_
    -- R2.1 13 := kernel.go:75 call
    refine WL.call (r_call ty_call88 rfl) rfl rfl rfl (done_ok (V.back (I := [_]) st)) ?_
    rintro _ w ⟨ovr, XO, hor, rfl, st⟩
    obtain ⟨ar, cr, br, rfl, -, -, -, -⟩ := hor.form
    obtain ⟨Yr, st, backr⟩ := KH.out (st.perm (List.perm_append_comm_assoc XO [_] l))
    -- R2.2 None := kernel.go:75 store
    first | refine WL.storeW (vs := [_, _, _]) st ty_agg34 rfl rfl rfl rfl rfl rfl ?_ | refine WL.storeL (vs := [_, _, _]) st ty_agg34 rfl rfl rfl rfl (by first | decide | omega) rfl rfl ?_ | refine WL.storeW (vs := [_, _, _]) st.front1 ty_agg34 rfl rfl rfl rfl rfl rfl ?_ | refine WL.storeL (vs := [_, _, _]) st.front1 ty_agg34 rfl rfl rfl rfl (by first | decide | omega) rfl rfl ?_ | refine WL.storeW (vs := [_, _, _]) st.front2 ty_agg34 rfl rfl rfl rfl rfl rfl ?_ | refine WL.storeL (vs := [_, _, _]) st.front2 ty_agg34 rfl rfl rfl rfl (by first | decide | omega) rfl rfl ?_ | refine WL.storeW (vs := [_, _, _]) st.front3 ty_agg34 rfl rfl rfl rfl rfl rfl ?_ | refine WL.storeL (vs := [_, _, _]) st.front3 ty_agg34 rfl rfl rfl rfl (by first | decide | omega) rfl rfl ?_ | refine WL.storeW (vs := [_, _, _]) st.front4 ty_agg34 rfl rfl rfl rfl rfl rfl ?_ | refine WL.storeL (vs := [_, _, _]) st.front4 ty_agg34 rfl rfl rfl rfl (by first | decide | omega) rfl rfl ?_ | refine WL.storeW (vs := [_, _, _]) st.front5 ty_agg34 rfl rfl rfl rfl rfl rfl ?_ | refine WL.storeL (vs := [_, _, _]) st.front5 ty_agg34 rfl rfl rfl rfl (by first | decide | omega) rfl rfl ?_ | refine WL.storeW (vs := [_, _, _]) st.front6 ty_agg34 rfl rfl rfl rfl rfl rfl ?_ | refine WL.storeL (vs := [_, _, _]) st.front6 ty_agg34 rfl rfl rfl rfl (by first | decide | omega) rfl rfl ?_ | refine WL.storeW (vs := [_, _, _]) st.front7 ty_agg34 rfl rfl rfl rfl rfl rfl ?_ | refine WL.storeL (vs := [_, _, _]) st.front7 ty_agg34 rfl rfl rfl rfl (by first | decide | omega) rfl rfl ?_ | refine WL.storeW (vs := [_, _, _]) st.front8 ty_agg34 rfl rfl rfl rfl rfl rfl ?_ | refine WL.storeL (vs := [_, _, _]) st.front8 ty_agg34 rfl rfl rfl rfl (by first | decide | omega) rfl rfl ?_
    intro w st
    refine WL.fin hK897 (fun _ _ h => h) ?_
    refine WC.retC (vs := [_, _, _]) Tryz.results76 (fun _ _ h => h) rfl ty_agg34 rfl ⟨(by first | assumption | exact st.c0 (by first | decide | omega) | exact st.c1 (by first | decide | omega) | exact st.c2 (by first | decide | omega) | exact st.c3 (by first | decide | omega) | exact st.c4 (by first | decide | omega) | exact st.c5 (by first | decide | omega) | exact st.c6 (by first | decide | omega) | exact st.c7 (by first | decide | omega) | exact st.c8 (by first | decide | omega)), (by first | assumption | exact st.c0 (by first | decide | omega) | exact st.c1 (by first | decide | omega) | exact st.c2 (by first | decide | omega) | exact st.c3 (by first | decide | omega) | exact st.c4 (by first | decide | omega) | exact st.c5 (by first | decide | omega) | exact st.c6 (by first | decide | omega) | exact st.c7 (by first | decide | omega) | exact st.c8 (by first | decide | omega)), (by first | assumption | exact st.c0 (by first | decide | omega) | exact st.c1 (by first | decide | omega) | exact st.c2 (by first | decide | omega) | exact st.c3 (by first | decide | omega) | exact st.c4 (by first | decide | omega) | exact st.c5 (by first | decide | omega) | exact st.c6 (by first | decide | omega) | exact st.c7 (by first | decide | omega) | exact st.c8 (by first | decide | omega)), trivial⟩ ?_
    rw [e]
    exact ⟨_, rfl, _, XO, hor, rfl, (backr st).drop⟩
  by_cases hc4 : 4 ≤ m
  · have e : setModeP s m = (s, 7) := if_pos (.inr hc4)
    refine enter [.pointer (some ⟨B.bk, 0, none⟩), .int .i64 m] Tryz.func76 rfl Tryz.ntmps76 rfl ?_
    show WC _ _ _ 36 [] [(0, .pointer (some ⟨B.bk, 0, none⟩)), (1, .int .i64 m)] _
    refine WC.seq fun K898 hK898 => ?_
    -- region 0
    refine WC.region ?_
    -- R0.0 4 := kernel.go:73 alloc
    refine WL.alloc (m := 3) st ty_zero34 rfl rfl rfl ?_
    intro b4 w st
    refine WL.fin hK898 (fun _ _ h => h) ?_
    refine WC.seq fun K899 hK899 => ?_
    refine WC.seq fun K900 hK900 => ?_
    -- region 1
    refine WC.region ?_
    -- R1.0 6 := kernel.go:74 move
    refine WL.v (by first | exact r_move (v := .int _ _) rfl | exact r_move rfl) rfl rfl rfl ?_
    -- R1.1 7 := kernel.go:74 binOp
    refine WL.v (by first | exact r_lss rfl rfl (decide_eq_true (by omega)) | exact r_lss rfl rfl (decide_eq_false (by omega)) | exact r_lss rfl rfl rfl) rfl rfl rfl ?_
    -- R1.2 8 := kernel.go:74 move
    refine WL.v (by first | exact r_move (v := .bool _) rfl | exact r_move rfl) rfl rfl rfl ?_
    -- R1.3 9 := kernel.go:74 move
    refine WL.v (by first | exact r_move (v := .int _ _) rfl | exact r_move rfl) rfl rfl rfl ?_
    -- R1.4 10 := kernel.go:74 binOp
    refine WL.v (by first | exact r_geq rfl rfl (decide_eq_true (by omega)) | exact r_geq rfl rfl (decide_eq_false (by omega)) | exact r_geq rfl rfl rfl) rfl rfl rfl ?_
    -- R1.5 11 := kernel.go:74 pick
    refine WL.v (by first | exact r_pickT (v := .bool _) rfl rfl | exact r_pickF (v := .bool _) rfl rfl) rfl rfl rfl ?_
    refine WL.fin hK900 (fun _ _ h => h) ?_
    refine WC.condT rfl rfl ?_
    refine WC.seq fun K901 hK901 => ?_
    -- region 2
    refine WC.region ?_
    -- R2.0 12 := kernel.go:75 move
    refine WL.v (by first | exact r_move (v := .pointer _) rfl | exact r_move rfl) rfl rfl rfl ?_
    -- R2.1 13 := kernel.go:75 call
    refine WL.call (r_call ty_call88 rfl) rfl rfl rfl (done_ok (V.back (I := [_]) st)) ?_
    rintro _ w ⟨ovr, XO, hor, rfl, st⟩
    obtain ⟨ar, cr, br, rfl, -, -, -, -⟩ := hor.form
    obtain ⟨Yr, st, backr⟩ := KH.out (st.perm (List.perm_append_comm_assoc XO [_] l))
    -- R2.2 None := kernel.go:75 store
    first | refine WL.storeW (vs := [_, _, _]) st ty_agg34 rfl rfl rfl rfl rfl rfl ?_ | refine WL.storeL (vs := [_, _, _]) st ty_agg34 rfl rfl rfl rfl (by first | decide | omega) rfl rfl ?_ | refine WL.storeW (vs := [_, _, _]) st.front1 ty_agg34 rfl rfl rfl rfl rfl rfl ?_ | refine WL.storeL (vs := [_, _, _]) st.front1 ty_agg34 rfl rfl rfl rfl (by first | decide | omega) rfl rfl ?_ | refine WL.storeW (vs := [_, _, _]) st.front2 ty_agg34 rfl rfl rfl rfl rfl rfl ?_ | refine WL.storeL (vs := [_, _, _]) st.front2 ty_agg34 rfl rfl rfl rfl (by first | decide | omega) rfl rfl ?_ | refine WL.storeW (vs := [_, _, _]) st.front3 ty_agg34 rfl rfl rfl rfl rfl rfl ?_ | refine WL.storeL (vs := [_, _, _]) st.front3 ty_agg34 rfl rfl rfl rfl (by first | decide | omega) rfl rfl ?_ | refine WL.storeW (vs := [_, _, _]) st.front4 ty_agg34 rfl rfl rfl rfl rfl rfl ?_ | refine WL.storeL (vs := [_, _, _]) st.front4 ty_agg34 rfl rfl rfl rfl (by first | decide | omega) rfl rfl ?_ | refine WL.storeW (vs := [_, _, _]) st.front5 ty_agg34 rfl rfl rfl rfl rfl rfl ?_ | refine WL.storeL (vs := [_, _, _]) st.front5 ty_agg34 rfl rfl rfl rfl (by first | decide | omega) rfl rfl ?_ | refine WL.storeW (vs := [_, _, _]) st.front6 ty_agg34 rfl rfl rfl rfl rfl rfl ?_ | refine WL.storeL (vs := [_, _, _]) st.front6 ty_agg34 rfl rfl rfl rfl (by first | decide | omega) rfl rfl ?_ | refine WL.storeW (vs := [_, _, _]) st.front7 ty_agg34 rfl rfl rfl rfl rfl rfl ?_ | refine WL.storeL (vs := [_, _, _]) st.front7 ty_agg34 rfl rfl rfl rfl (by first | decide | omega) rfl rfl ?_ | refine WL.storeW (vs := [_, _, _]) st.front8 ty_agg34 rfl rfl rfl rfl rfl rfl ?_ | refine WL.storeL (vs := [_, _, _]) st.front8 ty_agg34 rfl rfl rfl rfl (by first | decide | omega) rfl rfl ?_
    intro w st
    refine WL.fin hK901 (fun _ _ h => h) ?_
    refine WC.retC (vs := [_, _, _]) Tryz.results76 (fun _ _ h => h) rfl ty_agg34 rfl ⟨(by first | assumption | exact st.c0 (by first | decide | omega) | exact st.c1 (by first | decide | omega) | exact st.c2 (by first | decide | omega) | exact st.c3 (by first | decide | omega) | exact st.c4 (by first | decide | omega) | exact st.c5 (by first | decide | omega) | exact st.c6 (by first | decide | omega) | exact st.c7 (by first | decide | omega) | exact st.c8 (by first | decide | omega)), (by first | assumption | exact st.c0 (by first | decide | omega) | exact st.c1 (by first | decide | omega) | exact st.c2 (by first | decide | omega) | exact st.c3 (by first | decide | omega) | exact st.c4 (by first | decide | omega) | exact st.c5 (by first | decide | omega) | exact st.c6 (by first | decide | omega) | exact st.c7 (by first | decide | omega) | exact st.c8 (by first | decide | omega)), (by first | assumption | exact st.c0 (by first | decide | omega) | exact st.c1 (by first | decide | omega) | exact st.c2 (by first | decide | omega) | exact st.c3 (by first | decide | omega) | exact st.c4 (by first | decide | omega) | exact st.c5 (by first | decide | omega) | exact st.c6 (by first | decide | omega) | exact st.c7 (by first | decide | omega) | exact st.c8 (by first | decide | omega)), trivial⟩ ?_
    rw [e]
    exact ⟨_, rfl, _, XO, hor, rfl, (backr st).drop⟩
  obtain ⟨m, rfl⟩ : ∃ n : Nat, m = n := ⟨m.toNat, by omega⟩
  have e1 : setModeP s (m : Nat) = if anyLive s then (s, 8) else ({ s with mode := m }, 0) := by unfold setModeP; rw [if_neg (by omega), Int.toNat_natCast]
  refine enter [.pointer (some ⟨B.bk, 0, none⟩), .int .i64 (m : Nat)] Tryz.func76 rfl Tryz.ntmps76 rfl ?_
  show WC _ _ _ 36 [] [(0, .pointer (some ⟨B.bk, 0, none⟩)), (1, .int .i64 (m : Nat))] _
  refine WC.seq fun K902 hK902 => ?_
  -- region 0
  refine WC.region ?_
  -- R0.0 4 := kernel.go:73 alloc
  refine WL.alloc (m := 3) st ty_zero34 rfl rfl rfl ?_
  intro b4 w st
  refine WL.fin hK902 (fun _ _ h => h) ?_
  refine WC.seq fun K903 hK903 => ?_
  refine WC.seq fun K904 hK904 => ?_
  -- region 1
  refine WC.region ?_
  -- R1.0 6 := kernel.go:74 move
  refine WL.v (by first | exact r_move (v := .int _ _) rfl | exact r_move rfl) rfl rfl rfl ?_
  -- R1.1 7 := kernel.go:74 binOp
  refine WL.v (by first | exact r_lss rfl rfl (decide_eq_true (by omega)) | exact r_lss rfl rfl (decide_eq_false (by omega)) | exact r_lss rfl rfl rfl) rfl rfl rfl ?_
  -- R1.2 8 := kernel.go:74 move
  refine WL.v (by first | exact r_move (v := .bool _) rfl | exact r_move rfl) rfl rfl rfl ?_
  -- R1.3 9 := kernel.go:74 move
  refine WL.v (by first | exact r_move (v := .int _ _) rfl | exact r_move rfl) rfl rfl rfl ?_
  -- R1.4 10 := kernel.go:74 binOp
  refine WL.v (by first | exact r_geq rfl rfl (decide_eq_true (by omega)) | exact r_geq rfl rfl (decide_eq_false (by omega)) | exact r_geq rfl rfl rfl) rfl rfl rfl ?_
  -- R1.5 11 := kernel.go:74 pick
  refine WL.v (by first | exact r_pickT (v := .bool _) rfl rfl | exact r_pickF (v := .bool _) rfl rfl) rfl rfl rfl ?_
  refine WL.fin hK904 (fun _ _ h => h) ?_
  refine WC.condF rfl rfl ?_
  refine WC.skipF hK903 (fun _ _ h => h) ?_
  refine WC.seq fun K905 hK905 => ?_
  refine WC.seq fun K906 hK906 => ?_
  -- region 3
  refine WC.region ?_
  -- R3.0 14 := kernel.go:77 move
  refine WL.v (by first | exact r_move (v := .int _ _) rfl | exact r_move rfl) rfl rfl rfl ?_
  refine WL.fin hK906 (fun _ _ h => h) ?_
  refine WC.block ?_
  refine WC.loop (ι := Nat) (fun i => [(0, .pointer (some ⟨B.bk, 0, none⟩)), (1, .int .i64 (m : Nat)), (4, .pointer (some ⟨b4, 0, none⟩)), (14, .int .i64 (i : Nat))])
    (fun i w' => i ≤ 16 ∧ (List.range i).any (fun t => (s.tk t).live) = false ∧ S0 w0 (zR b4 :: Y) w') (fun i => 16 - i) 0 ⟨Nat.zero_le _, rfl, st⟩ ?_ ?_
  · skip
    repeat (first | exact sub_nil _ | refine sub_cons rfl rfl ?_)
  clear st
  rintro i w ⟨hi, hal, st⟩ K1 hK1
  by_cases h16 : i = 16
  · subst h16
    have e : setModeP s (m : Nat) = ({ s with mode := m }, 0) := e1.trans (if_neg (by rw [show anyLive s = false from hal]; decide))
    refine WC.seq fun K907 hK907 => ?_
    -- region 4
    refine WC.region ?_
    -- R4.0 15 := kernel.go:77 binOp
    refine WL.v (by first | exact r_lss rfl rfl (decide_eq_true (by omega)) | exact r_lss rfl rfl (decide_eq_false (by omega)) | exact r_lss rfl rfl rfl) rfl rfl rfl ?_
    refine WL.fin hK907 (fun _ _ h => h) ?_
    refine WC.seq fun K908 hK908 => ?_
    refine WC.condF rfl rfl ?_
    refine WC.exitF hK905 (fun _ _ h => h) ?_
    refine WC.seq fun K909 hK909 => ?_
    -- region 9
    obtain ⟨Y1, qv1, XQ1, tv1, ov1, V1, st⟩ := (V.back (I := [_]) st).view
    refine WC.region ?_
    -- R9.0 27 := kernel.go:82 move
    refine WL.v (by first | exact r_move (v := .pointer _) rfl | exact r_move rfl) rfl rfl rfl ?_
    -- R9.1 28 := kernel.go:82 nilCheck
    refine WL.v (by exact r_nilCheck rfl) rfl rfl rfl ?_
    -- R9.2 29 := kernel.go:82 fieldAddr
    refine WL.v (by exact r_field ty_fld120_2 rfl) rfl rfl rfl ?_
    -- R9.3 30 := kernel.go:82 load
    refine WL.v (by exact r_load1 (v := .pointer (some ⟨B.bp, 0, none⟩)) ty_one109 rfl (V1.cp st)) rfl rfl rfl ?_
    -- R9.4 31 := kernel.go:82 move
    refine WL.v (by first | exact r_move (v := .int _ _) rfl | exact r_move rfl) rfl rfl rfl ?_
    -- R9.5 32 := kernel.go:82 nilCheck
    refine WL.v (by exact r_nilCheck rfl) rfl rfl rfl ?_
    -- R9.6 33 := kernel.go:82 fieldAddr
    refine WL.v (by exact r_field ty_fld131_0 rfl) rfl rfl rfl ?_
    -- R9.7 None := kernel.go:82 store
    obtain ⟨Y2, st, back2⟩ := (V1.same st).pol
    refine WL.store (v := .int .i64 (m : Nat)) st ty_one40 rfl rfl rfl (by decide) rfl rfl ?_
    intro w st
    have st := back2 (stE pF_mode st)
    refine WL.fin hK909 (fun _ _ h => h) ?_
    refine WC.seq fun K910 hK910 => ?_
    -- region 10
    refine WC.region ?_
    -- R10.0 34 := kernel.go:83 move
    refine WL.v (by first | exact r_move (v := .pointer _) rfl | exact r_move rfl) rfl rfl rfl ?_
    -- R10.1 35 := kernel.go:83 call
    refine WL.call (r_call ty_call88 rfl) rfl rfl rfl (done_ok st) ?_
    rintro _ w ⟨ovr, XO, hor, rfl, st⟩
    obtain ⟨ar, cr, br, rfl, -, -, -, -⟩ := hor.form
    obtain ⟨Yr, st, backr⟩ := KH.out (st.perm (List.perm_append_comm_assoc XO [_] l))
    -- R10.2 None := kernel.go:83 store
    first | refine WL.storeW (vs := [_, _, _]) st ty_agg34 rfl rfl rfl rfl rfl rfl ?_ | refine WL.storeL (vs := [_, _, _]) st ty_agg34 rfl rfl rfl rfl (by first | decide | omega) rfl rfl ?_ | refine WL.storeW (vs := [_, _, _]) st.front1 ty_agg34 rfl rfl rfl rfl rfl rfl ?_ | refine WL.storeL (vs := [_, _, _]) st.front1 ty_agg34 rfl rfl rfl rfl (by first | decide | omega) rfl rfl ?_ | refine WL.storeW (vs := [_, _, _]) st.front2 ty_agg34 rfl rfl rfl rfl rfl rfl ?_ | refine WL.storeL (vs := [_, _, _]) st.front2 ty_agg34 rfl rfl rfl rfl (by first | decide | omega) rfl rfl ?_ | refine WL.storeW (vs := [_, _, _]) st.front3 ty_agg34 rfl rfl rfl rfl rfl rfl ?_ | refine WL.storeL (vs := [_, _, _]) st.front3 ty_agg34 rfl rfl rfl rfl (by first | decide | omega) rfl rfl ?_ | refine WL.storeW (vs := [_, _, _]) st.front4 ty_agg34 rfl rfl rfl rfl rfl rfl ?_ | refine WL.storeL (vs := [_, _, _]) st.front4 ty_agg34 rfl rfl rfl rfl (by first | decide | omega) rfl rfl ?_ | refine WL.storeW (vs := [_, _, _]) st.front5 ty_agg34 rfl rfl rfl rfl rfl rfl ?_ | refine WL.storeL (vs := [_, _, _]) st.front5 ty_agg34 rfl rfl rfl rfl (by first | decide | omega) rfl rfl ?_ | refine WL.storeW (vs := [_, _, _]) st.front6 ty_agg34 rfl rfl rfl rfl rfl rfl ?_ | refine WL.storeL (vs := [_, _, _]) st.front6 ty_agg34 rfl rfl rfl rfl (by first | decide | omega) rfl rfl ?_ | refine WL.storeW (vs := [_, _, _]) st.front7 ty_agg34 rfl rfl rfl rfl rfl rfl ?_ | refine WL.storeL (vs := [_, _, _]) st.front7 ty_agg34 rfl rfl rfl rfl (by first | decide | omega) rfl rfl ?_ | refine WL.storeW (vs := [_, _, _]) st.front8 ty_agg34 rfl rfl rfl rfl rfl rfl ?_ | refine WL.storeL (vs := [_, _, _]) st.front8 ty_agg34 rfl rfl rfl rfl (by first | decide | omega) rfl rfl ?_
    intro w st
    refine WL.fin hK910 (fun _ _ h => h) ?_
    refine WC.retC (vs := [_, _, _]) Tryz.results76 (fun _ _ h => h) rfl ty_agg34 rfl ⟨(by first | assumption | exact st.c0 (by first | decide | omega) | exact st.c1 (by first | decide | omega) | exact st.c2 (by first | decide | omega) | exact st.c3 (by first | decide | omega) | exact st.c4 (by first | decide | omega) | exact st.c5 (by first | decide | omega) | exact st.c6 (by first | decide | omega) | exact st.c7 (by first | decide | omega) | exact st.c8 (by first | decide | omega)), (by first | assumption | exact st.c0 (by first | decide | omega) | exact st.c1 (by first | decide | omega) | exact st.c2 (by first | decide | omega) | exact st.c3 (by first | decide | omega) | exact st.c4 (by first | decide | omega) | exact st.c5 (by first | decide | omega) | exact st.c6 (by first | decide | omega) | exact st.c7 (by first | decide | omega) | exact st.c8 (by first | decide | omega)), (by first | assumption | exact st.c0 (by first | decide | omega) | exact st.c1 (by first | decide | omega) | exact st.c2 (by first | decide | omega) | exact st.c3 (by first | decide | omega) | exact st.c4 (by first | decide | omega) | exact st.c5 (by first | decide | omega) | exact st.c6 (by first | decide | omega) | exact st.c7 (by first | decide | omega) | exact st.c8 (by first | decide | omega)), trivial⟩ ?_
    rw [e]
    exact ⟨_, rfl, _, XO, hor, rfl, (backr st).drop⟩
  have hi' : i < 16 := by omega
  rcases Bool.eq_false_or_eq_true (s.tk i).live with hl | hl
  · have e : setModeP s (m : Nat) = (s, 8) := e1.trans (if_pos (any_at (i := i) hi' hl))
    refine WC.seq fun K911 hK911 => ?_
    -- region 4
    refine WC.region ?_
    -- R4.0 15 := kernel.go:77 binOp
    refine WL.v (by first | exact r_lss rfl rfl (decide_eq_true (by omega)) | exact r_lss rfl rfl (decide_eq_false (by omega)) | exact r_lss rfl rfl rfl) rfl rfl rfl ?_
    refine WL.fin hK911 (fun _ _ h => h) ?_
    refine WC.seq fun K912 hK912 => ?_
    refine WC.condT rfl rfl ?_
    refine WC.skipF hK912 (fun _ _ h => h) ?_
    refine WC.seq fun K913 hK913 => ?_
    refine WC.block ?_
    refine WC.seq fun K914 hK914 => ?_
    -- region 5
    refine WC.region ?_
    -- R5.0 16 := kernel.go:77 move
    refine WL.v (by first | exact r_move (v := .int _ _) rfl | exact r_move rfl) rfl rfl rfl ?_
    -- R5.1 5 := kernel.go:77 assign
    refine WL.v (by first | exact r_assign (v := .int _ _) rfl | exact r_assign rfl) rfl rfl rfl ?_
    refine WL.fin hK914 (fun _ _ h => h) ?_
    refine WC.seq fun K915 hK915 => ?_
    -- region 6
    refine WC.region ?_
    -- R6.0 17 := kernel.go:78 move
    refine WL.v (by first | exact r_move (v := .pointer _) rfl | exact r_move rfl) rfl rfl rfl ?_
    -- R6.1 18 := kernel.go:78 move
    refine WL.v (by first | exact r_move (v := .int _ _) rfl | exact r_move rfl) rfl rfl rfl ?_
    -- R6.2 19 := kernel.go:78 nilCheck
    refine WL.v (by exact r_nilCheck rfl) rfl rfl rfl ?_
    -- R6.3 20 := kernel.go:78 fieldAddr
    refine WL.v (by exact r_field ty_fld120_3 rfl) rfl rfl rfl ?_
    -- R6.4 21 := kernel.go:78 indexAddr
    refine WL.v (by exact r_indexA (j := i) ty_ar118 rfl rfl rfl hi') rfl rfl rfl ?_
    -- R6.5 22 := kernel.go:78 fieldAddr
    refine WL.v (by exact r_field ty_fld117_0 rfl) rfl rfl rfl ?_
    -- R6.6 23 := kernel.go:78 load
    refine WL.v (by exact r_load1 (v := .bool true) ty_one4 rfl (by rw [c_tk (List.mem_cons_of_mem _ V.k) hi' (j := 0) (by decide) (by omega) st, ← hl]; rfl)) rfl rfl rfl ?_
    refine WL.fin hK915 (fun _ _ h => h) ?_
    refine WC.condT rfl rfl ?_
    refine WC.seq fun K916 hK916 => ?_
    -- region 7
    refine WC.region ?_
    -- R7.0 24 := kernel.go:79 move
    refine WL.v (by first | exact r_move (v := .pointer _) rfl | exact r_move rfl) rfl rfl rfl ?_
    -- R7.1 25 := kernel.go:79 call
    refine WL.call (r_call ty_call88 rfl) rfl rfl rfl (done_ok (V.back (I := [_]) st)) ?_
    rintro _ w ⟨ovr, XO, hor, rfl, st⟩
    obtain ⟨ar, cr, br, rfl, -, -, -, -⟩ := hor.form
    obtain ⟨Yr, st, backr⟩ := KH.out (st.perm (List.perm_append_comm_assoc XO [_] l))
    -- R7.2 None := kernel.go:79 store
    first | refine WL.storeW (vs := [_, _, _]) st ty_agg34 rfl rfl rfl rfl rfl rfl ?_ | refine WL.storeL (vs := [_, _, _]) st ty_agg34 rfl rfl rfl rfl (by first | decide | omega) rfl rfl ?_ | refine WL.storeW (vs := [_, _, _]) st.front1 ty_agg34 rfl rfl rfl rfl rfl rfl ?_ | refine WL.storeL (vs := [_, _, _]) st.front1 ty_agg34 rfl rfl rfl rfl (by first | decide | omega) rfl rfl ?_ | refine WL.storeW (vs := [_, _, _]) st.front2 ty_agg34 rfl rfl rfl rfl rfl rfl ?_ | refine WL.storeL (vs := [_, _, _]) st.front2 ty_agg34 rfl rfl rfl rfl (by first | decide | omega) rfl rfl ?_ | refine WL.storeW (vs := [_, _, _]) st.front3 ty_agg34 rfl rfl rfl rfl rfl rfl ?_ | refine WL.storeL (vs := [_, _, _]) st.front3 ty_agg34 rfl rfl rfl rfl (by first | decide | omega) rfl rfl ?_ | refine WL.storeW (vs := [_, _, _]) st.front4 ty_agg34 rfl rfl rfl rfl rfl rfl ?_ | refine WL.storeL (vs := [_, _, _]) st.front4 ty_agg34 rfl rfl rfl rfl (by first | decide | omega) rfl rfl ?_ | refine WL.storeW (vs := [_, _, _]) st.front5 ty_agg34 rfl rfl rfl rfl rfl rfl ?_ | refine WL.storeL (vs := [_, _, _]) st.front5 ty_agg34 rfl rfl rfl rfl (by first | decide | omega) rfl rfl ?_ | refine WL.storeW (vs := [_, _, _]) st.front6 ty_agg34 rfl rfl rfl rfl rfl rfl ?_ | refine WL.storeL (vs := [_, _, _]) st.front6 ty_agg34 rfl rfl rfl rfl (by first | decide | omega) rfl rfl ?_ | refine WL.storeW (vs := [_, _, _]) st.front7 ty_agg34 rfl rfl rfl rfl rfl rfl ?_ | refine WL.storeL (vs := [_, _, _]) st.front7 ty_agg34 rfl rfl rfl rfl (by first | decide | omega) rfl rfl ?_ | refine WL.storeW (vs := [_, _, _]) st.front8 ty_agg34 rfl rfl rfl rfl rfl rfl ?_ | refine WL.storeL (vs := [_, _, _]) st.front8 ty_agg34 rfl rfl rfl rfl (by first | decide | omega) rfl rfl ?_
    intro w st
    refine WL.fin hK916 (fun _ _ h => h) ?_
    refine WC.retC (vs := [_, _, _]) Tryz.results76 (fun _ _ h => h) rfl ty_agg34 rfl ⟨(by first | assumption | exact st.c0 (by first | decide | omega) | exact st.c1 (by first | decide | omega) | exact st.c2 (by first | decide | omega) | exact st.c3 (by first | decide | omega) | exact st.c4 (by first | decide | omega) | exact st.c5 (by first | decide | omega) | exact st.c6 (by first | decide | omega) | exact st.c7 (by first | decide | omega) | exact st.c8 (by first | decide | omega)), (by first | assumption | exact st.c0 (by first | decide | omega) | exact st.c1 (by first | decide | omega) | exact st.c2 (by first | decide | omega) | exact st.c3 (by first | decide | omega) | exact st.c4 (by first | decide | omega) | exact st.c5 (by first | decide | omega) | exact st.c6 (by first | decide | omega) | exact st.c7 (by first | decide | omega) | exact st.c8 (by first | decide | omega)), (by first | assumption | exact st.c0 (by first | decide | omega) | exact st.c1 (by first | decide | omega) | exact st.c2 (by first | decide | omega) | exact st.c3 (by first | decide | omega) | exact st.c4 (by first | decide | omega) | exact st.c5 (by first | decide | omega) | exact st.c6 (by first | decide | omega) | exact st.c7 (by first | decide | omega) | exact st.c8 (by first | decide | omega)), trivial⟩ ?_
    rw [e]
    exact ⟨_, rfl, _, XO, hor, rfl, (backr st).drop⟩
  · skip
    refine WC.seq fun K917 hK917 => ?_
    -- region 4
    refine WC.region ?_
    -- R4.0 15 := kernel.go:77 binOp
    refine WL.v (by first | exact r_lss rfl rfl (decide_eq_true (by omega)) | exact r_lss rfl rfl (decide_eq_false (by omega)) | exact r_lss rfl rfl rfl) rfl rfl rfl ?_
    refine WL.fin hK917 (fun _ _ h => h) ?_
    refine WC.seq fun K918 hK918 => ?_
    refine WC.condT rfl rfl ?_
    refine WC.skipF hK918 (fun _ _ h => h) ?_
    refine WC.seq fun K919 hK919 => ?_
    refine WC.block ?_
    refine WC.seq fun K920 hK920 => ?_
    -- region 5
    refine WC.region ?_
    -- R5.0 16 := kernel.go:77 move
    refine WL.v (by first | exact r_move (v := .int _ _) rfl | exact r_move rfl) rfl rfl rfl ?_
    -- R5.1 5 := kernel.go:77 assign
    refine WL.v (by first | exact r_assign (v := .int _ _) rfl | exact r_assign rfl) rfl rfl rfl ?_
    refine WL.fin hK920 (fun _ _ h => h) ?_
    refine WC.seq fun K921 hK921 => ?_
    -- region 6
    refine WC.region ?_
    -- R6.0 17 := kernel.go:78 move
    refine WL.v (by first | exact r_move (v := .pointer _) rfl | exact r_move rfl) rfl rfl rfl ?_
    -- R6.1 18 := kernel.go:78 move
    refine WL.v (by first | exact r_move (v := .int _ _) rfl | exact r_move rfl) rfl rfl rfl ?_
    -- R6.2 19 := kernel.go:78 nilCheck
    refine WL.v (by exact r_nilCheck rfl) rfl rfl rfl ?_
    -- R6.3 20 := kernel.go:78 fieldAddr
    refine WL.v (by exact r_field ty_fld120_3 rfl) rfl rfl rfl ?_
    -- R6.4 21 := kernel.go:78 indexAddr
    refine WL.v (by exact r_indexA (j := i) ty_ar118 rfl rfl rfl hi') rfl rfl rfl ?_
    -- R6.5 22 := kernel.go:78 fieldAddr
    refine WL.v (by exact r_field ty_fld117_0 rfl) rfl rfl rfl ?_
    -- R6.6 23 := kernel.go:78 load
    refine WL.v (by exact r_load1 (v := .bool false) ty_one4 rfl (by rw [c_tk (List.mem_cons_of_mem _ V.k) hi' (j := 0) (by decide) (by omega) st, ← hl]; rfl)) rfl rfl rfl ?_
    refine WL.fin hK921 (fun _ _ h => h) ?_
    refine WC.condF rfl rfl ?_
    refine WC.skipF hK919 (fun _ _ h => h) ?_
    -- region 8
    refine WC.region ?_
    -- R8.0 26 := kernel.go:77 binOp
    refine WL.v (by first | exact r_add rfl rfl (wi64 (by omega) (by omega)) | exact r_add rfl rfl rfl) rfl rfl rfl ?_
    -- R8.1 14 := kernel.go:77 move
    refine WL.v (by first | exact r_move (v := .int _ _) rfl | exact r_move rfl) rfl rfl rfl ?_
    refine WL.next hK1 (fun _ _ h => h) (i + 1) ⟨hi', by rw [any_succ, hal, hl]; rfl, st⟩ (by omega) (by repeat (first | exact sub_nil _ | refine sub_cons rfl rfl ?_))

def slotP (s : KS) : Option Nat := (List.range 16).find? fun t => !(s.tk t).live
def bornT (s : KS) (t : Nat) : TK := { tk0 with live := true, birth := s.births + 1, epoch := (s.tk t).epoch }
def bornS (s : KS) (t : Nat) : KS := { s with births := s.births + 1, tk := updN s.tk t (bornT s t) }
def spawnP (s : KS) : KS × Int × Int := match slotP s with | none => (s, 9, -1) | some t => (bornS s t, 0, t)
set_option maxHeartbeats 2000000 in
theorem spawn_ok (hbi : s.births < 9223372036854775808) (st : KH w0 B s l w) :
    Calls Tryz.prog 77 #[.pointer (some ⟨B.bk, 0, none⟩)] w (Ret fun v w' => RK w0 B (spawnP s).1 (spawnP s).2.1 (spawnP s).2.2 l v w') := by
  obtain ⟨Y, qv, XQ, tv, ov, V, st⟩ := st.view
  refine enter [.pointer (some ⟨B.bk, 0, none⟩)] Tryz.func77 rfl Tryz.ntmps77 rfl ?_
  show WC _ _ _ 47 [] [(0, .pointer (some ⟨B.bk, 0, none⟩))] _
  refine WC.seq fun K922 hK922 => ?_
  -- region 0
  refine WC.region ?_
  -- R0.0 2 := kernel.go:88 alloc
  refine WL.alloc (m := 3) st ty_zero34 rfl rfl rfl ?_
  intro b2 w st
  refine WL.fin hK922 (fun _ _ h => h) ?_
  refine WC.seq fun K923 hK923 => ?_
  refine WC.seq fun K924 hK924 => ?_
  -- region 1
  refine WC.region ?_
  -- R1.0 5 := kernel.go:89 move
  refine WL.v (by first | exact r_move (v := .int _ _) rfl | exact r_move rfl) rfl rfl rfl ?_
  refine WL.fin hK924 (fun _ _ h => h) ?_
  refine WC.block ?_
  refine WC.loop (ι := Nat) (fun i => [(0, .pointer (some ⟨B.bk, 0, none⟩)), (2, .pointer (some ⟨b2, 0, none⟩)), (5, .int .i64 (i : Nat))])
    (fun i w' => i ≤ 16 ∧ (∀ j, j < i → (s.tk j).live = true) ∧ S0 w0 (zR b2 :: Y) w') (fun i => 16 - i) 0 ⟨Nat.zero_le _, fun j hj => absurd hj (Nat.not_lt_zero _), st⟩ ?_ ?_
  · skip
    repeat (first | exact sub_nil _ | refine sub_cons rfl rfl ?_)
  clear st
  rintro i w ⟨hi, hal, st⟩ K1 hK1
  by_cases h16 : i = 16
  · subst h16
    have e : spawnP s = (s, 9, -1) := by
      have : slotP s = none := List.find?_eq_none.2 fun x hx => by rw [hal x (List.mem_range.1 hx)]; decide
      unfold spawnP; rw [this]
    refine WC.seq fun K925 hK925 => ?_
    -- region 2
    refine WC.region ?_
    -- R2.0 6 := kernel.go:89 binOp
    refine WL.v (by first | exact r_lss rfl rfl (decide_eq_true (by omega)) | exact r_lss rfl rfl (decide_eq_false (by omega)) | exact r_lss rfl rfl rfl) rfl rfl rfl ?_
    refine WL.fin hK925 (fun _ _ h => h) ?_
    refine WC.seq fun K926 hK926 => ?_
    refine WC.condF rfl rfl ?_
    refine WC.exitF hK923 (fun _ _ h => h) ?_
    refine WC.seq fun K927 hK927 => ?_
    -- region 11
    refine WC.region ?_
    -- R11.0 45 := kernel.go:99 move
    refine WL.v (by first | exact r_move (v := .pointer _) rfl | exact r_move rfl) rfl rfl rfl ?_
    -- R11.1 46 := kernel.go:99 call
    refine WL.call (r_call ty_call88 rfl) rfl rfl rfl (done_ok (V.back (I := [_]) st)) ?_
    rintro _ w ⟨ovr, XO, hor, rfl, st⟩
    obtain ⟨ar, cr, br, rfl, -, -, -, -⟩ := hor.form
    obtain ⟨Yr, st, backr⟩ := KH.out (st.perm (List.perm_append_comm_assoc XO [_] l))
    -- R11.2 None := kernel.go:99 store
    first | refine WL.storeW (vs := [_, _, _]) st ty_agg34 rfl rfl rfl rfl rfl rfl ?_ | refine WL.storeL (vs := [_, _, _]) st ty_agg34 rfl rfl rfl rfl (by first | decide | omega) rfl rfl ?_ | refine WL.storeW (vs := [_, _, _]) st.front1 ty_agg34 rfl rfl rfl rfl rfl rfl ?_ | refine WL.storeL (vs := [_, _, _]) st.front1 ty_agg34 rfl rfl rfl rfl (by first | decide | omega) rfl rfl ?_ | refine WL.storeW (vs := [_, _, _]) st.front2 ty_agg34 rfl rfl rfl rfl rfl rfl ?_ | refine WL.storeL (vs := [_, _, _]) st.front2 ty_agg34 rfl rfl rfl rfl (by first | decide | omega) rfl rfl ?_ | refine WL.storeW (vs := [_, _, _]) st.front3 ty_agg34 rfl rfl rfl rfl rfl rfl ?_ | refine WL.storeL (vs := [_, _, _]) st.front3 ty_agg34 rfl rfl rfl rfl (by first | decide | omega) rfl rfl ?_ | refine WL.storeW (vs := [_, _, _]) st.front4 ty_agg34 rfl rfl rfl rfl rfl rfl ?_ | refine WL.storeL (vs := [_, _, _]) st.front4 ty_agg34 rfl rfl rfl rfl (by first | decide | omega) rfl rfl ?_ | refine WL.storeW (vs := [_, _, _]) st.front5 ty_agg34 rfl rfl rfl rfl rfl rfl ?_ | refine WL.storeL (vs := [_, _, _]) st.front5 ty_agg34 rfl rfl rfl rfl (by first | decide | omega) rfl rfl ?_ | refine WL.storeW (vs := [_, _, _]) st.front6 ty_agg34 rfl rfl rfl rfl rfl rfl ?_ | refine WL.storeL (vs := [_, _, _]) st.front6 ty_agg34 rfl rfl rfl rfl (by first | decide | omega) rfl rfl ?_ | refine WL.storeW (vs := [_, _, _]) st.front7 ty_agg34 rfl rfl rfl rfl rfl rfl ?_ | refine WL.storeL (vs := [_, _, _]) st.front7 ty_agg34 rfl rfl rfl rfl (by first | decide | omega) rfl rfl ?_ | refine WL.storeW (vs := [_, _, _]) st.front8 ty_agg34 rfl rfl rfl rfl rfl rfl ?_ | refine WL.storeL (vs := [_, _, _]) st.front8 ty_agg34 rfl rfl rfl rfl (by first | decide | omega) rfl rfl ?_
    intro w st
    refine WL.fin hK927 (fun _ _ h => h) ?_
    refine WC.retC (vs := [_, _, _]) Tryz.results77 (fun _ _ h => h) rfl ty_agg34 rfl ⟨(by first | assumption | exact st.c0 (by first | decide | omega) | exact st.c1 (by first | decide | omega) | exact st.c2 (by first | decide | omega) | exact st.c3 (by first | decide | omega) | exact st.c4 (by first | decide | omega) | exact st.c5 (by first | decide | omega) | exact st.c6 (by first | decide | omega) | exact st.c7 (by first | decide | omega) | exact st.c8 (by first | decide | omega)), (by first | assumption | exact st.c0 (by first | decide | omega) | exact st.c1 (by first | decide | omega) | exact st.c2 (by first | decide | omega) | exact st.c3 (by first | decide | omega) | exact st.c4 (by first | decide | omega) | exact st.c5 (by first | decide | omega) | exact st.c6 (by first | decide | omega) | exact st.c7 (by first | decide | omega) | exact st.c8 (by first | decide | omega)), (by first | assumption | exact st.c0 (by first | decide | omega) | exact st.c1 (by first | decide | omega) | exact st.c2 (by first | decide | omega) | exact st.c3 (by first | decide | omega) | exact st.c4 (by first | decide | omega) | exact st.c5 (by first | decide | omega) | exact st.c6 (by first | decide | omega) | exact st.c7 (by first | decide | omega) | exact st.c8 (by first | decide | omega)), trivial⟩ ?_
    rw [e]
    exact ⟨_, rfl, _, XO, hor, rfl, (backr st).drop⟩
  have hi' : i < 16 := by omega
  rcases Bool.eq_false_or_eq_true (s.tk i).live with hl | hl
  · skip
    refine WC.seq fun K928 hK928 => ?_
    -- region 2
    refine WC.region ?_
    -- R2.0 6 := kernel.go:89 binOp
    refine WL.v (by first | exact r_lss rfl rfl (decide_eq_true (by omega)) | exact r_lss rfl rfl (decide_eq_false (by omega)) | exact r_lss rfl rfl rfl) rfl rfl rfl ?_
    refine WL.fin hK928 (fun _ _ h => h) ?_
    refine WC.seq fun K929 hK929 => ?_
    refine WC.condT rfl rfl ?_
    refine WC.skipF hK929 (fun _ _ h => h) ?_
    refine WC.seq fun K930 hK930 => ?_
    refine WC.block ?_
    refine WC.seq fun K931 hK931 => ?_
    -- region 3
    refine WC.region ?_
    -- R3.0 7 := kernel.go:89 move
    refine WL.v (by first | exact r_move (v := .int _ _) rfl | exact r_move rfl) rfl rfl rfl ?_
    -- R3.1 3 := kernel.go:89 assign
    refine WL.v (by first | exact r_assign (v := .int _ _) rfl | exact r_assign rfl) rfl rfl rfl ?_
    refine WL.fin hK931 (fun _ _ h => h) ?_
    refine WC.seq fun K932 hK932 => ?_
    refine WC.seq fun K933 hK933 => ?_
    -- region 4
    refine WC.region ?_
    -- R4.0 8 := kernel.go:90 move
    refine WL.v (by first | exact r_move (v := .pointer _) rfl | exact r_move rfl) rfl rfl rfl ?_
    -- R4.1 9 := kernel.go:90 move
    refine WL.v (by first | exact r_move (v := .int _ _) rfl | exact r_move rfl) rfl rfl rfl ?_
    -- R4.2 10 := kernel.go:90 nilCheck
    refine WL.v (by exact r_nilCheck rfl) rfl rfl rfl ?_
    -- R4.3 11 := kernel.go:90 fieldAddr
    refine WL.v (by exact r_field ty_fld120_3 rfl) rfl rfl rfl ?_
    -- R4.4 12 := kernel.go:90 indexAddr
    refine WL.v (by exact r_indexA (j := i) ty_ar118 rfl rfl rfl hi') rfl rfl rfl ?_
    -- R4.5 13 := kernel.go:90 fieldAddr
    refine WL.v (by exact r_field ty_fld117_0 rfl) rfl rfl rfl ?_
    -- R4.6 14 := kernel.go:90 load
    refine WL.v (by exact r_load1 (v := .bool true) ty_one4 rfl (by rw [c_tk (List.mem_cons_of_mem _ V.k) hi' (j := 0) (by decide) (by omega) st, ← hl]; rfl)) rfl rfl rfl ?_
    refine WL.fin hK933 (fun _ _ h => h) ?_
    refine WC.condT rfl rfl ?_
    refine WC.exitF hK930 (fun _ _ h => h) ?_
    -- region 10
    refine WC.region ?_
    -- R10.0 44 := kernel.go:89 binOp
    refine WL.v (by first | exact r_add rfl rfl (wi64 (by omega) (by omega)) | exact r_add rfl rfl rfl) rfl rfl rfl ?_
    -- R10.1 5 := kernel.go:89 move
    refine WL.v (by first | exact r_move (v := .int _ _) rfl | exact r_move rfl) rfl rfl rfl ?_
    refine WL.next hK1 (fun _ _ h => h) (i + 1) ⟨hi', fun j hj => by rcases Nat.lt_succ_iff_lt_or_eq.1 hj with h | rfl; exact hal j h; exact hl, st⟩ (by omega) (by repeat (first | exact sub_nil _ | refine sub_cons rfl rfl ?_))
  have e : spawnP s = (bornS s i, (0 : Int), ((i : Nat) : Int)) := by
    have : slotP s = some i := List.find?_range_eq_some.2 ⟨by rw [hl]; rfl, List.mem_range.2 hi', fun j hj => by rw [hal j hj]; rfl⟩
    unfold spawnP; rw [this]
  refine WC.seq fun K934 hK934 => ?_
  -- region 2
  refine WC.region ?_
  -- R2.0 6 := kernel.go:89 binOp
  refine WL.v (by first | exact r_lss rfl rfl (decide_eq_true (by omega)) | exact r_lss rfl rfl (decide_eq_false (by omega)) | exact r_lss rfl rfl rfl) rfl rfl rfl ?_
  refine WL.fin hK934 (fun _ _ h => h) ?_
  refine WC.seq fun K935 hK935 => ?_
  refine WC.condT rfl rfl ?_
  refine WC.skipF hK935 (fun _ _ h => h) ?_
  refine WC.seq fun K936 hK936 => ?_
  refine WC.block ?_
  refine WC.seq fun K937 hK937 => ?_
  -- region 3
  refine WC.region ?_
  -- R3.0 7 := kernel.go:89 move
  refine WL.v (by first | exact r_move (v := .int _ _) rfl | exact r_move rfl) rfl rfl rfl ?_
  -- R3.1 3 := kernel.go:89 assign
  refine WL.v (by first | exact r_assign (v := .int _ _) rfl | exact r_assign rfl) rfl rfl rfl ?_
  refine WL.fin hK937 (fun _ _ h => h) ?_
  refine WC.seq fun K938 hK938 => ?_
  refine WC.seq fun K939 hK939 => ?_
  -- region 4
  refine WC.region ?_
  -- R4.0 8 := kernel.go:90 move
  refine WL.v (by first | exact r_move (v := .pointer _) rfl | exact r_move rfl) rfl rfl rfl ?_
  -- R4.1 9 := kernel.go:90 move
  refine WL.v (by first | exact r_move (v := .int _ _) rfl | exact r_move rfl) rfl rfl rfl ?_
  -- R4.2 10 := kernel.go:90 nilCheck
  refine WL.v (by exact r_nilCheck rfl) rfl rfl rfl ?_
  -- R4.3 11 := kernel.go:90 fieldAddr
  refine WL.v (by exact r_field ty_fld120_3 rfl) rfl rfl rfl ?_
  -- R4.4 12 := kernel.go:90 indexAddr
  refine WL.v (by exact r_indexA (j := i) ty_ar118 rfl rfl rfl hi') rfl rfl rfl ?_
  -- R4.5 13 := kernel.go:90 fieldAddr
  refine WL.v (by exact r_field ty_fld117_0 rfl) rfl rfl rfl ?_
  -- R4.6 14 := kernel.go:90 load
  refine WL.v (by exact r_load1 (v := .bool false) ty_one4 rfl (by rw [c_tk (List.mem_cons_of_mem _ V.k) hi' (j := 0) (by decide) (by omega) st, ← hl]; rfl)) rfl rfl rfl ?_
  refine WL.fin hK939 (fun _ _ h => h) ?_
  refine WC.condF rfl rfl ?_
  refine WC.skipF hK938 (fun _ _ h => h) ?_
  refine WC.seq fun K940 hK940 => ?_
  -- region 5
  obtain ⟨ov3, Y3, st, back3⟩ := (V.back (I := [_]) st).ker
  refine WC.region ?_
  -- R5.0 15 := kernel.go:93 move
  refine WL.v (by first | exact r_move (v := .pointer _) rfl | exact r_move rfl) rfl rfl rfl ?_
  -- R5.1 16 := kernel.go:93 nilCheck
  refine WL.v (by exact r_nilCheck rfl) rfl rfl rfl ?_
  -- R5.2 17 := kernel.go:93 fieldAddr
  refine WL.v (by exact r_field ty_fld120_5 rfl) rfl rfl rfl ?_
  -- R5.3 18 := kernel.go:93 load
  refine WL.v (by exact r_load1 (v := .int .u64 (s.births : Nat)) ty_one26 rfl (st.c0 (by decide))) rfl rfl rfl ?_
  -- R5.4 19 := kernel.go:93 binOp
  refine WL.v (by exact r_add (r := ((s.births + 1 : Nat) : Int)) rfl rfl (wu64 (by omega) (by omega))) rfl rfl rfl ?_
  -- R5.5 20 := kernel.go:93 nilCheck
  refine WL.v (by exact r_nilCheck rfl) rfl rfl rfl ?_
  -- R5.6 21 := kernel.go:93 fieldAddr
  refine WL.v (by exact r_field ty_fld120_5 rfl) rfl rfl rfl ?_
  -- R5.7 None := kernel.go:93 store
  refine WL.store (v := .int .u64 ((s.births + 1 : Nat) : Int)) st ty_one26 rfl rfl rfl (by decide) rfl rfl ?_
  intro w st
  have st := stE (kF_setBi (x := s.births + 1)) st
  refine WL.fin hK940 (fun _ _ h => h) ?_
  refine WC.seq fun K941 hK941 => ?_
  -- region 6 (draws)
  refine WC.tailS 17 st ty_mixed (by kernel_rfl) fun w st Kq hKq => ?_
  -- R6.0 22 := kernel.go:94 move
  refine SL.v (by first | exact r_move (v := .pointer _) rfl | exact r_move rfl) rfl rfl rfl ?_
  -- R6.1 23 := kernel.go:94 move
  refine SL.v (by first | exact r_move (v := .int _ _) rfl | exact r_move rfl) rfl rfl rfl ?_
  -- R6.2 24 := kernel.go:94 move
  refine SL.v (by first | exact r_move (v := .pointer _) rfl | exact r_move rfl) rfl rfl rfl ?_
  -- R6.3 25 := kernel.go:94 nilCheck
  refine SL.v (by exact r_nilCheck rfl) rfl rfl rfl ?_
  -- R6.4 26 := kernel.go:94 fieldAddr
  refine SL.v (by exact r_field ty_fld120_5 rfl) rfl rfl rfl ?_
  -- R6.5 27 := kernel.go:94 load
  refine SL.v (by exact r_load1 (v := .int .u64 ((s.births + 1 : Nat) : Int)) ty_one26 rfl (st.c0 (by decide))) rfl rfl rfl ?_
  -- R6.6 28 := kernel.go:94 move
  refine SL.v (by first | exact r_move (v := .pointer _) rfl | exact r_move rfl) rfl rfl rfl ?_
  -- R6.7 29 := kernel.go:94 move
  refine SL.v (by first | exact r_move (v := .int _ _) rfl | exact r_move rfl) rfl rfl rfl ?_
  -- R6.8 30 := kernel.go:94 nilCheck
  refine SL.v (by exact r_nilCheck rfl) rfl rfl rfl ?_
  -- R6.9 31 := kernel.go:94 fieldAddr
  refine SL.v (by exact r_field ty_fld120_3 rfl) rfl rfl rfl ?_
  -- R6.10 32 := kernel.go:94 indexAddr
  refine SL.v (by exact r_indexA (j := i) ty_ar118 rfl rfl rfl hi') rfl rfl rfl ?_
  -- R6.11 33 := kernel.go:94 fieldAddr
  refine SL.v (by exact r_field ty_fld117_2 rfl) rfl rfl rfl ?_
  -- R6.12 34 := kernel.go:94 load
  refine SL.v (by exact r_load1 (v := .int .u64 ((s.tk i).epoch : Nat)) ty_one26 rfl (c_tk List.mem_cons_self hi' (j := 2) (by decide) (by omega) st)) rfl rfl rfl ?_
  -- R6.13 35 := kernel.go:94 build
  refine SL.v (by exact r_buildN (n := 135) (z := tkF tk0) (v := upds (upds (upds (tkF tk0) 0 1 fun _ => .bool true) 1 1 fun _ => .int .u64 ((s.births + 1 : Nat) : Int)) 2 1 fun _ => .int .u64 ((s.tk i).epoch : Nat)) (ps := [(0, .bool true), (1, .int .u64 ((s.births + 1 : Nat) : Int)), (2, .int .u64 ((s.tk i).epoch : Nat))]) ty_pl117 zero117 rfl (fill_stepN (p := fun _ => .bool true) rfl rfl (by decide) (fill_stepN (p := fun _ => .int .u64 ((s.births + 1 : Nat) : Int)) rfl rfl (by decide) (fill_stepN (p := fun _ => .int .u64 ((s.tk i).epoch : Nat)) rfl rfl (by decide) fill_nil)))) rfl rfl rfl ?_
  -- R6.14 36 := kernel.go:94 nilCheck
  refine SL.v (by exact r_nilCheck rfl) rfl rfl rfl ?_
  -- R6.15 37 := kernel.go:94 fieldAddr
  refine SL.v (by exact r_field ty_fld120_3 rfl) rfl rfl rfl ?_
  -- R6.16 38 := kernel.go:94 indexAddr
  refine SL.v (by exact r_indexA (j := i) ty_ar118 rfl rfl rfl hi') rfl rfl rfl ?_
  refine SL.fin hKq ?_
  -- R6.17 None := kernel.go:94 store
  refine WL.storeN st ty_agg117 rfl rfl (fun j hj => by refine (congrArg Value.oneCell' (tkF_new (T := bornT s i) ⟨rfl, rfl, rfl, rfl, rfl, rfl⟩ j hj)).trans ?_; unfold tkF; split; (match j with | 0 | 1 | 2 | 3 | 4 | 5 | 6 => rfl | j + 7 => omega); split <;> rfl) (by omega) rfl rfl ?_
  intro w st
  have st := stE (kF_setB (T' := bornT s i) hi' (fun j hj => tkF_new (T := bornT s i) ⟨rfl, rfl, rfl, rfl, rfl, rfl⟩ j hj)) st
  have st : KH w0 B (bornS s i) (zR b2 :: l) w := back3 st
  refine WL.fin hK941 (fun _ _ h => h) ?_
  refine WC.seq fun K942 hK942 => ?_
  -- region 7
  refine WC.region ?_
  -- R7.0 39 := kernel.go:95 move
  refine WL.v (by first | exact r_move (v := .pointer _) rfl | exact r_move rfl) rfl rfl rfl ?_
  -- R7.1 40 := kernel.go:95 call
  refine WL.call (r_call ty_call88 rfl) rfl rfl rfl (done_ok st) ?_
  rintro _ w ⟨ovr, XO, hor, rfl, st⟩
  obtain ⟨ar, cr, br, rfl, -, -, -, -⟩ := hor.form
  obtain ⟨Yr, st, backr⟩ := KH.out (st.perm (List.perm_append_comm_assoc XO [_] l))
  -- R7.2 4 := kernel.go:95 alloc
  refine WL.alloc (m := 3) st ty_zero34 rfl rfl rfl ?_
  intro b4 w st
  -- R7.3 None := kernel.go:95 store
  first | refine WL.storeW (vs := [_, _, _]) st ty_agg34 rfl rfl rfl rfl rfl rfl ?_ | refine WL.storeL (vs := [_, _, _]) st ty_agg34 rfl rfl rfl rfl (by first | decide | omega) rfl rfl ?_ | refine WL.storeW (vs := [_, _, _]) st.front1 ty_agg34 rfl rfl rfl rfl rfl rfl ?_ | refine WL.storeL (vs := [_, _, _]) st.front1 ty_agg34 rfl rfl rfl rfl (by first | decide | omega) rfl rfl ?_ | refine WL.storeW (vs := [_, _, _]) st.front2 ty_agg34 rfl rfl rfl rfl rfl rfl ?_ | refine WL.storeL (vs := [_, _, _]) st.front2 ty_agg34 rfl rfl rfl rfl (by first | decide | omega) rfl rfl ?_ | refine WL.storeW (vs := [_, _, _]) st.front3 ty_agg34 rfl rfl rfl rfl rfl rfl ?_ | refine WL.storeL (vs := [_, _, _]) st.front3 ty_agg34 rfl rfl rfl rfl (by first | decide | omega) rfl rfl ?_ | refine WL.storeW (vs := [_, _, _]) st.front4 ty_agg34 rfl rfl rfl rfl rfl rfl ?_ | refine WL.storeL (vs := [_, _, _]) st.front4 ty_agg34 rfl rfl rfl rfl (by first | decide | omega) rfl rfl ?_ | refine WL.storeW (vs := [_, _, _]) st.front5 ty_agg34 rfl rfl rfl rfl rfl rfl ?_ | refine WL.storeL (vs := [_, _, _]) st.front5 ty_agg34 rfl rfl rfl rfl (by first | decide | omega) rfl rfl ?_ | refine WL.storeW (vs := [_, _, _]) st.front6 ty_agg34 rfl rfl rfl rfl rfl rfl ?_ | refine WL.storeL (vs := [_, _, _]) st.front6 ty_agg34 rfl rfl rfl rfl (by first | decide | omega) rfl rfl ?_ | refine WL.storeW (vs := [_, _, _]) st.front7 ty_agg34 rfl rfl rfl rfl rfl rfl ?_ | refine WL.storeL (vs := [_, _, _]) st.front7 ty_agg34 rfl rfl rfl rfl (by first | decide | omega) rfl rfl ?_ | refine WL.storeW (vs := [_, _, _]) st.front8 ty_agg34 rfl rfl rfl rfl rfl rfl ?_ | refine WL.storeL (vs := [_, _, _]) st.front8 ty_agg34 rfl rfl rfl rfl (by first | decide | omega) rfl rfl ?_
  intro w st
  refine WL.fin hK942 (fun _ _ h => h) ?_
  refine WC.seq fun K943 hK943 => ?_
  -- region 8
  refine WC.region ?_
  -- R8.0 41 := kernel.go:96 move
  refine WL.v (by first | exact r_move (v := .int _ _) rfl | exact r_move rfl) rfl rfl rfl ?_
  -- R8.1 42 := kernel.go:96 fieldAddr
  refine WL.v (by exact r_field ty_fld34_1 rfl) rfl rfl rfl ?_
  -- R8.2 None := kernel.go:96 store
  first | refine WL.store (v := .int _ _) st ty_one31 rfl rfl rfl (by first | decide | omega) rfl rfl ?_ | refine WL.store (v := _) st ty_one31 rfl rfl rfl (by first | decide | omega) rfl rfl ?_ | refine WL.store (v := .int _ _) st.front1 ty_one31 rfl rfl rfl (by first | decide | omega) rfl rfl ?_ | refine WL.store (v := _) st.front1 ty_one31 rfl rfl rfl (by first | decide | omega) rfl rfl ?_ | refine WL.store (v := .int _ _) st.front2 ty_one31 rfl rfl rfl (by first | decide | omega) rfl rfl ?_ | refine WL.store (v := _) st.front2 ty_one31 rfl rfl rfl (by first | decide | omega) rfl rfl ?_ | refine WL.store (v := .int _ _) st.front3 ty_one31 rfl rfl rfl (by first | decide | omega) rfl rfl ?_ | refine WL.store (v := _) st.front3 ty_one31 rfl rfl rfl (by first | decide | omega) rfl rfl ?_ | refine WL.store (v := .int _ _) st.front4 ty_one31 rfl rfl rfl (by first | decide | omega) rfl rfl ?_ | refine WL.store (v := _) st.front4 ty_one31 rfl rfl rfl (by first | decide | omega) rfl rfl ?_ | refine WL.store (v := .int _ _) st.front5 ty_one31 rfl rfl rfl (by first | decide | omega) rfl rfl ?_ | refine WL.store (v := _) st.front5 ty_one31 rfl rfl rfl (by first | decide | omega) rfl rfl ?_ | refine WL.store (v := .int _ _) st.front6 ty_one31 rfl rfl rfl (by first | decide | omega) rfl rfl ?_ | refine WL.store (v := _) st.front6 ty_one31 rfl rfl rfl (by first | decide | omega) rfl rfl ?_ | refine WL.store (v := .int _ _) st.front7 ty_one31 rfl rfl rfl (by first | decide | omega) rfl rfl ?_ | refine WL.store (v := _) st.front7 ty_one31 rfl rfl rfl (by first | decide | omega) rfl rfl ?_ | refine WL.store (v := .int _ _) st.front8 ty_one31 rfl rfl rfl (by first | decide | omega) rfl rfl ?_ | refine WL.store (v := _) st.front8 ty_one31 rfl rfl rfl (by first | decide | omega) rfl rfl ?_
  intro w st
  refine WL.fin hK943 (fun _ _ h => h) ?_
  refine WC.seq fun K944 hK944 => ?_
  -- region 9
  refine WC.region ?_
  -- R9.0 43 := kernel.go:97 load
  refine WL.v (by exact r_loadL (vs := [_, _, _]) ty_agg34 rfl ⟨(by first | assumption | exact st.c0 (by first | decide | omega) | exact st.c1 (by first | decide | omega) | exact st.c2 (by first | decide | omega) | exact st.c3 (by first | decide | omega) | exact st.c4 (by first | decide | omega) | exact st.c5 (by first | decide | omega) | exact st.c6 (by first | decide | omega) | exact st.c7 (by first | decide | omega) | exact st.c8 (by first | decide | omega)), (by first | assumption | exact st.c0 (by first | decide | omega) | exact st.c1 (by first | decide | omega) | exact st.c2 (by first | decide | omega) | exact st.c3 (by first | decide | omega) | exact st.c4 (by first | decide | omega) | exact st.c5 (by first | decide | omega) | exact st.c6 (by first | decide | omega) | exact st.c7 (by first | decide | omega) | exact st.c8 (by first | decide | omega)), (by first | assumption | exact st.c0 (by first | decide | omega) | exact st.c1 (by first | decide | omega) | exact st.c2 (by first | decide | omega) | exact st.c3 (by first | decide | omega) | exact st.c4 (by first | decide | omega) | exact st.c5 (by first | decide | omega) | exact st.c6 (by first | decide | omega) | exact st.c7 (by first | decide | omega) | exact st.c8 (by first | decide | omega)), trivial⟩) rfl rfl rfl ?_
  -- R9.1 None := kernel.go:97 store
  first | refine WL.storeW (vs := [_, _, _]) st ty_agg34 rfl rfl rfl rfl rfl rfl ?_ | refine WL.storeL (vs := [_, _, _]) st ty_agg34 rfl rfl rfl rfl (by first | decide | omega) rfl rfl ?_ | refine WL.storeW (vs := [_, _, _]) st.front1 ty_agg34 rfl rfl rfl rfl rfl rfl ?_ | refine WL.storeL (vs := [_, _, _]) st.front1 ty_agg34 rfl rfl rfl rfl (by first | decide | omega) rfl rfl ?_ | refine WL.storeW (vs := [_, _, _]) st.front2 ty_agg34 rfl rfl rfl rfl rfl rfl ?_ | refine WL.storeL (vs := [_, _, _]) st.front2 ty_agg34 rfl rfl rfl rfl (by first | decide | omega) rfl rfl ?_ | refine WL.storeW (vs := [_, _, _]) st.front3 ty_agg34 rfl rfl rfl rfl rfl rfl ?_ | refine WL.storeL (vs := [_, _, _]) st.front3 ty_agg34 rfl rfl rfl rfl (by first | decide | omega) rfl rfl ?_ | refine WL.storeW (vs := [_, _, _]) st.front4 ty_agg34 rfl rfl rfl rfl rfl rfl ?_ | refine WL.storeL (vs := [_, _, _]) st.front4 ty_agg34 rfl rfl rfl rfl (by first | decide | omega) rfl rfl ?_ | refine WL.storeW (vs := [_, _, _]) st.front5 ty_agg34 rfl rfl rfl rfl rfl rfl ?_ | refine WL.storeL (vs := [_, _, _]) st.front5 ty_agg34 rfl rfl rfl rfl (by first | decide | omega) rfl rfl ?_ | refine WL.storeW (vs := [_, _, _]) st.front6 ty_agg34 rfl rfl rfl rfl rfl rfl ?_ | refine WL.storeL (vs := [_, _, _]) st.front6 ty_agg34 rfl rfl rfl rfl (by first | decide | omega) rfl rfl ?_ | refine WL.storeW (vs := [_, _, _]) st.front7 ty_agg34 rfl rfl rfl rfl rfl rfl ?_ | refine WL.storeL (vs := [_, _, _]) st.front7 ty_agg34 rfl rfl rfl rfl (by first | decide | omega) rfl rfl ?_ | refine WL.storeW (vs := [_, _, _]) st.front8 ty_agg34 rfl rfl rfl rfl rfl rfl ?_ | refine WL.storeL (vs := [_, _, _]) st.front8 ty_agg34 rfl rfl rfl rfl (by first | decide | omega) rfl rfl ?_
  intro w st
  refine WL.fin hK944 (fun _ _ h => h) ?_
  refine WC.retC (vs := [_, _, _]) Tryz.results77 (fun _ _ h => h) rfl ty_agg34 rfl ⟨(by first | assumption | exact st.c0 (by first | decide | omega) | exact st.c1 (by first | decide | omega) | exact st.c2 (by first | decide | omega) | exact st.c3 (by first | decide | omega) | exact st.c4 (by first | decide | omega) | exact st.c5 (by first | decide | omega) | exact st.c6 (by first | decide | omega) | exact st.c7 (by first | decide | omega) | exact st.c8 (by first | decide | omega)), (by first | assumption | exact st.c0 (by first | decide | omega) | exact st.c1 (by first | decide | omega) | exact st.c2 (by first | decide | omega) | exact st.c3 (by first | decide | omega) | exact st.c4 (by first | decide | omega) | exact st.c5 (by first | decide | omega) | exact st.c6 (by first | decide | omega) | exact st.c7 (by first | decide | omega) | exact st.c8 (by first | decide | omega)), (by first | assumption | exact st.c0 (by first | decide | omega) | exact st.c1 (by first | decide | omega) | exact st.c2 (by first | decide | omega) | exact st.c3 (by first | decide | omega) | exact st.c4 (by first | decide | omega) | exact st.c5 (by first | decide | omega) | exact st.c6 (by first | decide | omega) | exact st.c7 (by first | decide | omega) | exact st.c8 (by first | decide | omega)), trivial⟩ ?_
  rw [e]
  exact ⟨_, rfl, _, XO, hor, rfl, (backr (st.drop1)).drop⟩

def declareK (s : KS) (t r u : Int) : KS × Int :=
  if callerP s t ≠ 0 then (s, callerP s t)
  else if r < 0 ∨ 20 ≤ r then (s, 13)
  else ({ s with claim := if declareP r.toNat u (decide (0 < (heldByP s.held t.toNat).length)) = 0 then upd2 s.claim t.toNat r.toNat u.toNat else s.claim }, declareP r.toNat u (decide (0 < (heldByP s.held t.toNat).length)))
set_option maxHeartbeats 2000000 in
theorem declare_ok {t r u : Int} (st : KH w0 B s l w) :
    Calls Tryz.prog 78 #[.pointer (some ⟨B.bk, 0, none⟩), .int .i64 t, .int .i64 r, .int .i64 u] w (Ret fun v w' => RK w0 B (declareK s t r u).1 (declareK s t r u).2 (-1) l v w') := by
  obtain ⟨Y, qv, XQ, tv, ov, V, st⟩ := st.view
  by_cases hc1 : callerP s t ≠ 0
  · have e : declareK s t r u = (s, callerP s t) := if_pos hc1
    refine enter [.pointer (some ⟨B.bk, 0, none⟩), .int .i64 t, .int .i64 r, .int .i64 u] Tryz.func78 rfl Tryz.ntmps78 rfl ?_
    show WC _ _ _ 44 [] [(0, .pointer (some ⟨B.bk, 0, none⟩)), (1, .int .i64 t), (2, .int .i64 r), (3, .int .i64 u)] _
    refine WC.seq fun K945 hK945 => ?_
    -- region 0
    refine WC.region ?_
    -- R0.0 8 := kernel.go:106 alloc
    refine WL.alloc (m := 3) st ty_zero34 rfl rfl rfl ?_
    intro b8 w st
    refine WL.fin hK945 (fun _ _ h => h) ?_
    refine WC.seq fun K946 hK946 => ?_
    refine WC.seq fun K947 hK947 => ?_
    -- region 1
    refine WC.region ?_
    -- R1.0 10 := kernel.go:107 move
    refine WL.v (by first | exact r_move (v := .pointer _) rfl | exact r_move rfl) rfl rfl rfl ?_
    -- R1.1 11 := kernel.go:107 move
    refine WL.v (by first | exact r_move (v := .int _ _) rfl | exact r_move rfl) rfl rfl rfl ?_
    -- R1.2 12 := kernel.go:107 call
    have st : KH w0 B s (zR b8 :: l) w := V.back (I := [_]) st
    refine WL.call (r_call ty_call100 rfl) rfl rfl rfl (caller_ok (t := t) st) ?_
    rintro _ w ⟨rfl, st⟩
    -- R1.3 9 := kernel.go:107 assign
    refine WL.v (by first | exact r_assign (v := .int _ _) rfl | exact r_assign rfl) rfl rfl rfl ?_
    refine WL.fin hK947 (fun _ _ h => h) ?_
    refine WC.seq fun K948 hK948 => ?_
    -- region 2
    refine WC.region ?_
    -- R2.0 13 := kernel.go:107 move
    refine WL.v (by first | exact r_move (v := .int _ _) rfl | exact r_move rfl) rfl rfl rfl ?_
    -- R2.1 14 := kernel.go:107 binOp
    refine WL.v (by first | exact r_neq rfl rfl (decide_eq_true (by omega)) | exact r_neq rfl rfl (decide_eq_false (by omega)) | exact r_neq rfl rfl rfl) rfl rfl rfl ?_
    refine WL.fin hK948 (fun _ _ h => h) ?_
    refine WC.condT rfl rfl ?_
    refine WC.seq fun K949 hK949 => ?_
    -- region 3
    refine WC.region ?_
    -- R3.0 15 := kernel.go:108 move
    refine WL.v (by first | exact r_move (v := .pointer _) rfl | exact r_move rfl) rfl rfl rfl ?_
    -- R3.1 16 := kernel.go:108 move
    refine WL.v (by first | exact r_move (v := .int _ _) rfl | exact r_move rfl) rfl rfl rfl ?_
    -- R3.2 17 := kernel.go:108 call
    refine WL.call (r_call ty_call88 rfl) rfl rfl rfl (done_ok st) ?_
    rintro _ w ⟨ovr, XO, hor, rfl, st⟩
    obtain ⟨ar, cr, br, rfl, -, -, -, -⟩ := hor.form
    obtain ⟨Yr, st, backr⟩ := KH.out (st.perm (List.perm_append_comm_assoc XO [_] l))
    -- R3.3 None := kernel.go:108 store
    first | refine WL.storeW (vs := [_, _, _]) st ty_agg34 rfl rfl rfl rfl rfl rfl ?_ | refine WL.storeL (vs := [_, _, _]) st ty_agg34 rfl rfl rfl rfl (by first | decide | omega) rfl rfl ?_ | refine WL.storeW (vs := [_, _, _]) st.front1 ty_agg34 rfl rfl rfl rfl rfl rfl ?_ | refine WL.storeL (vs := [_, _, _]) st.front1 ty_agg34 rfl rfl rfl rfl (by first | decide | omega) rfl rfl ?_ | refine WL.storeW (vs := [_, _, _]) st.front2 ty_agg34 rfl rfl rfl rfl rfl rfl ?_ | refine WL.storeL (vs := [_, _, _]) st.front2 ty_agg34 rfl rfl rfl rfl (by first | decide | omega) rfl rfl ?_ | refine WL.storeW (vs := [_, _, _]) st.front3 ty_agg34 rfl rfl rfl rfl rfl rfl ?_ | refine WL.storeL (vs := [_, _, _]) st.front3 ty_agg34 rfl rfl rfl rfl (by first | decide | omega) rfl rfl ?_ | refine WL.storeW (vs := [_, _, _]) st.front4 ty_agg34 rfl rfl rfl rfl rfl rfl ?_ | refine WL.storeL (vs := [_, _, _]) st.front4 ty_agg34 rfl rfl rfl rfl (by first | decide | omega) rfl rfl ?_ | refine WL.storeW (vs := [_, _, _]) st.front5 ty_agg34 rfl rfl rfl rfl rfl rfl ?_ | refine WL.storeL (vs := [_, _, _]) st.front5 ty_agg34 rfl rfl rfl rfl (by first | decide | omega) rfl rfl ?_ | refine WL.storeW (vs := [_, _, _]) st.front6 ty_agg34 rfl rfl rfl rfl rfl rfl ?_ | refine WL.storeL (vs := [_, _, _]) st.front6 ty_agg34 rfl rfl rfl rfl (by first | decide | omega) rfl rfl ?_ | refine WL.storeW (vs := [_, _, _]) st.front7 ty_agg34 rfl rfl rfl rfl rfl rfl ?_ | refine WL.storeL (vs := [_, _, _]) st.front7 ty_agg34 rfl rfl rfl rfl (by first | decide | omega) rfl rfl ?_ | refine WL.storeW (vs := [_, _, _]) st.front8 ty_agg34 rfl rfl rfl rfl rfl rfl ?_ | refine WL.storeL (vs := [_, _, _]) st.front8 ty_agg34 rfl rfl rfl rfl (by first | decide | omega) rfl rfl ?_
    intro w st
    refine WL.fin hK949 (fun _ _ h => h) ?_
    refine WC.retC (vs := [_, _, _]) Tryz.results78 (fun _ _ h => h) rfl ty_agg34 rfl ⟨(by first | assumption | exact st.c0 (by first | decide | omega) | exact st.c1 (by first | decide | omega) | exact st.c2 (by first | decide | omega) | exact st.c3 (by first | decide | omega) | exact st.c4 (by first | decide | omega) | exact st.c5 (by first | decide | omega) | exact st.c6 (by first | decide | omega) | exact st.c7 (by first | decide | omega) | exact st.c8 (by first | decide | omega)), (by first | assumption | exact st.c0 (by first | decide | omega) | exact st.c1 (by first | decide | omega) | exact st.c2 (by first | decide | omega) | exact st.c3 (by first | decide | omega) | exact st.c4 (by first | decide | omega) | exact st.c5 (by first | decide | omega) | exact st.c6 (by first | decide | omega) | exact st.c7 (by first | decide | omega) | exact st.c8 (by first | decide | omega)), (by first | assumption | exact st.c0 (by first | decide | omega) | exact st.c1 (by first | decide | omega) | exact st.c2 (by first | decide | omega) | exact st.c3 (by first | decide | omega) | exact st.c4 (by first | decide | omega) | exact st.c5 (by first | decide | omega) | exact st.c6 (by first | decide | omega) | exact st.c7 (by first | decide | omega) | exact st.c8 (by first | decide | omega)), trivial⟩ ?_
    rw [e]
    exact ⟨_, rfl, _, XO, hor, rfl, (backr st).drop⟩
  have hc1 : callerP s t = 0 := Classical.not_not.1 hc1
  obtain ⟨ht0, ht16⟩ := callerP_ok hc1
  obtain ⟨t, rfl⟩ : ∃ n : Nat, t = n := ⟨t.toNat, by omega⟩
  have ht : t < 16 := by omega
  have e1 : declareK s (t : Nat) r u = if r < 0 ∨ 20 ≤ r then (s, 13) else ({ s with claim := if declareP r.toNat u (decide (0 < (heldByP s.held t).length)) = 0 then upd2 s.claim t r.toNat u.toNat else s.claim }, declareP r.toNat u (decide (0 < (heldByP s.held t).length))) := by unfold declareK; rw [if_neg (fun h => h hc1), Int.toNat_natCast]
  by_cases hc0 : r < 0
  · have e : declareK s (t : Nat) r u = (s, 13) := e1.trans (if_pos (.inl hc0))
    refine enter [.pointer (some ⟨B.bk, 0, none⟩), .int .i64 (t : Nat), .int .i64 r, .int .i64 u] Tryz.func78 rfl Tryz.ntmps78 rfl ?_
    show WC _ _ _ 44 [] [(0, .pointer (some ⟨B.bk, 0, none⟩)), (1, .int .i64 (t : Nat)), (2, .int .i64 r), (3, .int .i64 u)] _
    refine WC.seq fun K950 hK950 => ?_
    -- region 0
    refine WC.region ?_
    -- R0.0 8 := kernel.go:106 alloc
    refine WL.alloc (m := 3) st ty_zero34 rfl rfl rfl ?_
    intro b8 w st
    refine WL.fin hK950 (fun _ _ h => h) ?_
    refine WC.seq fun K951 hK951 => ?_
    refine WC.seq fun K952 hK952 => ?_
    -- region 1
    refine WC.region ?_
    -- R1.0 10 := kernel.go:107 move
    refine WL.v (by first | exact r_move (v := .pointer _) rfl | exact r_move rfl) rfl rfl rfl ?_
    -- R1.1 11 := kernel.go:107 move
    refine WL.v (by first | exact r_move (v := .int _ _) rfl | exact r_move rfl) rfl rfl rfl ?_
    -- R1.2 12 := kernel.go:107 call
    have st : KH w0 B s (zR b8 :: l) w := V.back (I := [_]) st
    refine WL.call (r_call ty_call100 rfl) rfl rfl rfl (caller_ok (t := t) st) ?_
    rintro _ w ⟨rfl, st⟩
    -- R1.3 9 := kernel.go:107 assign
    refine WL.v (by exact r_assign (v := .int .i64 0) (congrArg (Value.int .i64) hc1)) rfl rfl rfl ?_
    refine WL.fin hK952 (fun _ _ h => h) ?_
    refine WC.seq fun K953 hK953 => ?_
    -- region 2
    refine WC.region ?_
    -- R2.0 13 := kernel.go:107 move
    refine WL.v (by first | exact r_move (v := .int _ _) rfl | exact r_move rfl) rfl rfl rfl ?_
    -- R2.1 14 := kernel.go:107 binOp
    refine WL.v (by first | exact r_neq rfl rfl (decide_eq_true (by omega)) | exact r_neq rfl rfl (decide_eq_false (by omega)) | exact r_neq rfl rfl rfl) rfl rfl rfl ?_
    refine WL.fin hK953 (fun _ _ h => h) ?_
    refine WC.condF rfl rfl ?_
    refine WC.skipF hK951 (fun _ _ h => h) ?_
    refine WC.seq fun K954 hK954 => ?_
    refine WC.seq fun K955 hK955 => ?_
    -- region 4
    refine WC.region ?_
    -- R4.0 18 := kernel.go:110 move
    refine WL.v (by first | exact r_move (v := .int _ _) rfl | exact r_move rfl) rfl rfl rfl ?_
    -- R4.1 19 := kernel.go:110 binOp
    refine WL.v (by first | exact r_lss rfl rfl (decide_eq_true (by omega)) | exact r_lss rfl rfl (decide_eq_false (by omega)) | exact r_lss rfl rfl rfl) rfl rfl rfl ?_
    -- R4.2 20 := kernel.go:110 move
    refine WL.v (by first | exact r_move (v := .bool _) rfl | exact r_move rfl) rfl rfl rfl ?_
    -- R4.3 21 := kernel.go:110 move
    refine WL.no rfl rfl ?_
    -- R4.4 22 := kernel.go:110 binOp
    refine WL.no rfl rfl ?_
    -- R4.5 23 := kernel.go:110 pick
    refine WL.v (by first | exact r_pickT (v := .bool _) rfl rfl | exact r_pickF (v := .bool _) rfl rfl) rfl rfl rfl ?_
    refine WL.fin hK955 (fun _ _ h => h) ?_
    refine WC.condT rfl rfl ?_
    refine WC.seq fun K956 hK956 => ?_
    -- region 5
    refine WC.region ?_
    -- R5.0 24 := kernel.go:111 move
    refine WL.v (by first | exact r_move (v := .pointer _) rfl | exact r_move rfl) rfl rfl rfl ?_
    -- R5.1 25 := kernel.go:111 call
    refine WL.call (r_call ty_call88 rfl) rfl rfl rfl (done_ok st) ?_
    rintro _ w ⟨ovr, XO, hor, rfl, st⟩
    obtain ⟨ar, cr, br, rfl, -, -, -, -⟩ := hor.form
    obtain ⟨Yr, st, backr⟩ := KH.out (st.perm (List.perm_append_comm_assoc XO [_] l))
    -- R5.2 None := kernel.go:111 store
    first | refine WL.storeW (vs := [_, _, _]) st ty_agg34 rfl rfl rfl rfl rfl rfl ?_ | refine WL.storeL (vs := [_, _, _]) st ty_agg34 rfl rfl rfl rfl (by first | decide | omega) rfl rfl ?_ | refine WL.storeW (vs := [_, _, _]) st.front1 ty_agg34 rfl rfl rfl rfl rfl rfl ?_ | refine WL.storeL (vs := [_, _, _]) st.front1 ty_agg34 rfl rfl rfl rfl (by first | decide | omega) rfl rfl ?_ | refine WL.storeW (vs := [_, _, _]) st.front2 ty_agg34 rfl rfl rfl rfl rfl rfl ?_ | refine WL.storeL (vs := [_, _, _]) st.front2 ty_agg34 rfl rfl rfl rfl (by first | decide | omega) rfl rfl ?_ | refine WL.storeW (vs := [_, _, _]) st.front3 ty_agg34 rfl rfl rfl rfl rfl rfl ?_ | refine WL.storeL (vs := [_, _, _]) st.front3 ty_agg34 rfl rfl rfl rfl (by first | decide | omega) rfl rfl ?_ | refine WL.storeW (vs := [_, _, _]) st.front4 ty_agg34 rfl rfl rfl rfl rfl rfl ?_ | refine WL.storeL (vs := [_, _, _]) st.front4 ty_agg34 rfl rfl rfl rfl (by first | decide | omega) rfl rfl ?_ | refine WL.storeW (vs := [_, _, _]) st.front5 ty_agg34 rfl rfl rfl rfl rfl rfl ?_ | refine WL.storeL (vs := [_, _, _]) st.front5 ty_agg34 rfl rfl rfl rfl (by first | decide | omega) rfl rfl ?_ | refine WL.storeW (vs := [_, _, _]) st.front6 ty_agg34 rfl rfl rfl rfl rfl rfl ?_ | refine WL.storeL (vs := [_, _, _]) st.front6 ty_agg34 rfl rfl rfl rfl (by first | decide | omega) rfl rfl ?_ | refine WL.storeW (vs := [_, _, _]) st.front7 ty_agg34 rfl rfl rfl rfl rfl rfl ?_ | refine WL.storeL (vs := [_, _, _]) st.front7 ty_agg34 rfl rfl rfl rfl (by first | decide | omega) rfl rfl ?_ | refine WL.storeW (vs := [_, _, _]) st.front8 ty_agg34 rfl rfl rfl rfl rfl rfl ?_ | refine WL.storeL (vs := [_, _, _]) st.front8 ty_agg34 rfl rfl rfl rfl (by first | decide | omega) rfl rfl ?_
    intro w st
    refine WL.fin hK956 (fun _ _ h => h) ?_
    refine WC.retC (vs := [_, _, _]) Tryz.results78 (fun _ _ h => h) rfl ty_agg34 rfl ⟨(by first | assumption | exact st.c0 (by first | decide | omega) | exact st.c1 (by first | decide | omega) | exact st.c2 (by first | decide | omega) | exact st.c3 (by first | decide | omega) | exact st.c4 (by first | decide | omega) | exact st.c5 (by first | decide | omega) | exact st.c6 (by first | decide | omega) | exact st.c7 (by first | decide | omega) | exact st.c8 (by first | decide | omega)), (by first | assumption | exact st.c0 (by first | decide | omega) | exact st.c1 (by first | decide | omega) | exact st.c2 (by first | decide | omega) | exact st.c3 (by first | decide | omega) | exact st.c4 (by first | decide | omega) | exact st.c5 (by first | decide | omega) | exact st.c6 (by first | decide | omega) | exact st.c7 (by first | decide | omega) | exact st.c8 (by first | decide | omega)), (by first | assumption | exact st.c0 (by first | decide | omega) | exact st.c1 (by first | decide | omega) | exact st.c2 (by first | decide | omega) | exact st.c3 (by first | decide | omega) | exact st.c4 (by first | decide | omega) | exact st.c5 (by first | decide | omega) | exact st.c6 (by first | decide | omega) | exact st.c7 (by first | decide | omega) | exact st.c8 (by first | decide | omega)), trivial⟩ ?_
    rw [e]
    exact ⟨_, rfl, _, XO, hor, rfl, (backr st).drop⟩
  by_cases hc12 : 20 ≤ r
  · have e : declareK s (t : Nat) r u = (s, 13) := e1.trans (if_pos (.inr hc12))
    refine enter [.pointer (some ⟨B.bk, 0, none⟩), .int .i64 (t : Nat), .int .i64 r, .int .i64 u] Tryz.func78 rfl Tryz.ntmps78 rfl ?_
    show WC _ _ _ 44 [] [(0, .pointer (some ⟨B.bk, 0, none⟩)), (1, .int .i64 (t : Nat)), (2, .int .i64 r), (3, .int .i64 u)] _
    refine WC.seq fun K957 hK957 => ?_
    -- region 0
    refine WC.region ?_
    -- R0.0 8 := kernel.go:106 alloc
    refine WL.alloc (m := 3) st ty_zero34 rfl rfl rfl ?_
    intro b8 w st
    refine WL.fin hK957 (fun _ _ h => h) ?_
    refine WC.seq fun K958 hK958 => ?_
    refine WC.seq fun K959 hK959 => ?_
    -- region 1
    refine WC.region ?_
    -- R1.0 10 := kernel.go:107 move
    refine WL.v (by first | exact r_move (v := .pointer _) rfl | exact r_move rfl) rfl rfl rfl ?_
    -- R1.1 11 := kernel.go:107 move
    refine WL.v (by first | exact r_move (v := .int _ _) rfl | exact r_move rfl) rfl rfl rfl ?_
    -- R1.2 12 := kernel.go:107 call
    have st : KH w0 B s (zR b8 :: l) w := V.back (I := [_]) st
    refine WL.call (r_call ty_call100 rfl) rfl rfl rfl (caller_ok (t := t) st) ?_
    rintro _ w ⟨rfl, st⟩
    -- R1.3 9 := kernel.go:107 assign
    refine WL.v (by exact r_assign (v := .int .i64 0) (congrArg (Value.int .i64) hc1)) rfl rfl rfl ?_
    refine WL.fin hK959 (fun _ _ h => h) ?_
    refine WC.seq fun K960 hK960 => ?_
    -- region 2
    refine WC.region ?_
    -- R2.0 13 := kernel.go:107 move
    refine WL.v (by first | exact r_move (v := .int _ _) rfl | exact r_move rfl) rfl rfl rfl ?_
    -- R2.1 14 := kernel.go:107 binOp
    refine WL.v (by first | exact r_neq rfl rfl (decide_eq_true (by omega)) | exact r_neq rfl rfl (decide_eq_false (by omega)) | exact r_neq rfl rfl rfl) rfl rfl rfl ?_
    refine WL.fin hK960 (fun _ _ h => h) ?_
    refine WC.condF rfl rfl ?_
    refine WC.skipF hK958 (fun _ _ h => h) ?_
    refine WC.seq fun K961 hK961 => ?_
    refine WC.seq fun K962 hK962 => ?_
    -- region 4
    refine WC.region ?_
    -- R4.0 18 := kernel.go:110 move
    refine WL.v (by first | exact r_move (v := .int _ _) rfl | exact r_move rfl) rfl rfl rfl ?_
    -- R4.1 19 := kernel.go:110 binOp
    refine WL.v (by first | exact r_lss rfl rfl (decide_eq_true (by omega)) | exact r_lss rfl rfl (decide_eq_false (by omega)) | exact r_lss rfl rfl rfl) rfl rfl rfl ?_
    -- R4.2 20 := kernel.go:110 move
    refine WL.v (by first | exact r_move (v := .bool _) rfl | exact r_move rfl) rfl rfl rfl ?_
    -- R4.3 21 := kernel.go:110 move
    refine WL.v (by first | exact r_move (v := .int _ _) rfl | exact r_move rfl) rfl rfl rfl ?_
    -- R4.4 22 := kernel.go:110 binOp
    refine WL.v (by first | exact r_geq rfl rfl (decide_eq_true (by omega)) | exact r_geq rfl rfl (decide_eq_false (by omega)) | exact r_geq rfl rfl rfl) rfl rfl rfl ?_
    -- R4.5 23 := kernel.go:110 pick
    refine WL.v (by first | exact r_pickT (v := .bool _) rfl rfl | exact r_pickF (v := .bool _) rfl rfl) rfl rfl rfl ?_
    refine WL.fin hK962 (fun _ _ h => h) ?_
    refine WC.condT rfl rfl ?_
    refine WC.seq fun K963 hK963 => ?_
    -- region 5
    refine WC.region ?_
    -- R5.0 24 := kernel.go:111 move
    refine WL.v (by first | exact r_move (v := .pointer _) rfl | exact r_move rfl) rfl rfl rfl ?_
    -- R5.1 25 := kernel.go:111 call
    refine WL.call (r_call ty_call88 rfl) rfl rfl rfl (done_ok st) ?_
    rintro _ w ⟨ovr, XO, hor, rfl, st⟩
    obtain ⟨ar, cr, br, rfl, -, -, -, -⟩ := hor.form
    obtain ⟨Yr, st, backr⟩ := KH.out (st.perm (List.perm_append_comm_assoc XO [_] l))
    -- R5.2 None := kernel.go:111 store
    first | refine WL.storeW (vs := [_, _, _]) st ty_agg34 rfl rfl rfl rfl rfl rfl ?_ | refine WL.storeL (vs := [_, _, _]) st ty_agg34 rfl rfl rfl rfl (by first | decide | omega) rfl rfl ?_ | refine WL.storeW (vs := [_, _, _]) st.front1 ty_agg34 rfl rfl rfl rfl rfl rfl ?_ | refine WL.storeL (vs := [_, _, _]) st.front1 ty_agg34 rfl rfl rfl rfl (by first | decide | omega) rfl rfl ?_ | refine WL.storeW (vs := [_, _, _]) st.front2 ty_agg34 rfl rfl rfl rfl rfl rfl ?_ | refine WL.storeL (vs := [_, _, _]) st.front2 ty_agg34 rfl rfl rfl rfl (by first | decide | omega) rfl rfl ?_ | refine WL.storeW (vs := [_, _, _]) st.front3 ty_agg34 rfl rfl rfl rfl rfl rfl ?_ | refine WL.storeL (vs := [_, _, _]) st.front3 ty_agg34 rfl rfl rfl rfl (by first | decide | omega) rfl rfl ?_ | refine WL.storeW (vs := [_, _, _]) st.front4 ty_agg34 rfl rfl rfl rfl rfl rfl ?_ | refine WL.storeL (vs := [_, _, _]) st.front4 ty_agg34 rfl rfl rfl rfl (by first | decide | omega) rfl rfl ?_ | refine WL.storeW (vs := [_, _, _]) st.front5 ty_agg34 rfl rfl rfl rfl rfl rfl ?_ | refine WL.storeL (vs := [_, _, _]) st.front5 ty_agg34 rfl rfl rfl rfl (by first | decide | omega) rfl rfl ?_ | refine WL.storeW (vs := [_, _, _]) st.front6 ty_agg34 rfl rfl rfl rfl rfl rfl ?_ | refine WL.storeL (vs := [_, _, _]) st.front6 ty_agg34 rfl rfl rfl rfl (by first | decide | omega) rfl rfl ?_ | refine WL.storeW (vs := [_, _, _]) st.front7 ty_agg34 rfl rfl rfl rfl rfl rfl ?_ | refine WL.storeL (vs := [_, _, _]) st.front7 ty_agg34 rfl rfl rfl rfl (by first | decide | omega) rfl rfl ?_ | refine WL.storeW (vs := [_, _, _]) st.front8 ty_agg34 rfl rfl rfl rfl rfl rfl ?_ | refine WL.storeL (vs := [_, _, _]) st.front8 ty_agg34 rfl rfl rfl rfl (by first | decide | omega) rfl rfl ?_
    intro w st
    refine WL.fin hK963 (fun _ _ h => h) ?_
    refine WC.retC (vs := [_, _, _]) Tryz.results78 (fun _ _ h => h) rfl ty_agg34 rfl ⟨(by first | assumption | exact st.c0 (by first | decide | omega) | exact st.c1 (by first | decide | omega) | exact st.c2 (by first | decide | omega) | exact st.c3 (by first | decide | omega) | exact st.c4 (by first | decide | omega) | exact st.c5 (by first | decide | omega) | exact st.c6 (by first | decide | omega) | exact st.c7 (by first | decide | omega) | exact st.c8 (by first | decide | omega)), (by first | assumption | exact st.c0 (by first | decide | omega) | exact st.c1 (by first | decide | omega) | exact st.c2 (by first | decide | omega) | exact st.c3 (by first | decide | omega) | exact st.c4 (by first | decide | omega) | exact st.c5 (by first | decide | omega) | exact st.c6 (by first | decide | omega) | exact st.c7 (by first | decide | omega) | exact st.c8 (by first | decide | omega)), (by first | assumption | exact st.c0 (by first | decide | omega) | exact st.c1 (by first | decide | omega) | exact st.c2 (by first | decide | omega) | exact st.c3 (by first | decide | omega) | exact st.c4 (by first | decide | omega) | exact st.c5 (by first | decide | omega) | exact st.c6 (by first | decide | omega) | exact st.c7 (by first | decide | omega) | exact st.c8 (by first | decide | omega)), trivial⟩ ?_
    rw [e]
    exact ⟨_, rfl, _, XO, hor, rfl, (backr st).drop⟩
  obtain ⟨r, rfl⟩ : ∃ n : Nat, r = n := ⟨r.toNat, by omega⟩
  have hr : r < 20 := by omega
  obtain ⟨hb, hhb⟩ : ∃ hb, hb = decide (0 < (heldByP s.held t).length) := ⟨_, rfl⟩
  have e : declareK s (t : Nat) (r : Nat) u = ({ s with claim := if declareP r u hb = 0 then upd2 s.claim t r u.toNat else s.claim }, declareP r u hb) := by rw [e1, if_neg (by omega), Int.toNat_natCast, hhb]
  refine enter [.pointer (some ⟨B.bk, 0, none⟩), .int .i64 (t : Nat), .int .i64 (r : Nat), .int .i64 u] Tryz.func78 rfl Tryz.ntmps78 rfl ?_
  show WC _ _ _ 44 [] [(0, .pointer (some ⟨B.bk, 0, none⟩)), (1, .int .i64 (t : Nat)), (2, .int .i64 (r : Nat)), (3, .int .i64 u)] _
  refine WC.seq fun K964 hK964 => ?_
  -- region 0
  refine WC.region ?_
  -- R0.0 8 := kernel.go:106 alloc
  refine WL.alloc (m := 3) st ty_zero34 rfl rfl rfl ?_
  intro b8 w st
  refine WL.fin hK964 (fun _ _ h => h) ?_
  refine WC.seq fun K965 hK965 => ?_
  refine WC.seq fun K966 hK966 => ?_
  -- region 1
  refine WC.region ?_
  -- R1.0 10 := kernel.go:107 move
  refine WL.v (by first | exact r_move (v := .pointer _) rfl | exact r_move rfl) rfl rfl rfl ?_
  -- R1.1 11 := kernel.go:107 move
  refine WL.v (by first | exact r_move (v := .int _ _) rfl | exact r_move rfl) rfl rfl rfl ?_
  -- R1.2 12 := kernel.go:107 call
  have st : KH w0 B s (zR b8 :: l) w := V.back (I := [_]) st
  refine WL.call (r_call ty_call100 rfl) rfl rfl rfl (caller_ok (t := t) st) ?_
  rintro _ w ⟨rfl, st⟩
  -- R1.3 9 := kernel.go:107 assign
  refine WL.v (by exact r_assign (v := .int .i64 0) (congrArg (Value.int .i64) hc1)) rfl rfl rfl ?_
  refine WL.fin hK966 (fun _ _ h => h) ?_
  refine WC.seq fun K967 hK967 => ?_
  -- region 2
  refine WC.region ?_
  -- R2.0 13 := kernel.go:107 move
  refine WL.v (by first | exact r_move (v := .int _ _) rfl | exact r_move rfl) rfl rfl rfl ?_
  -- R2.1 14 := kernel.go:107 binOp
  refine WL.v (by first | exact r_neq rfl rfl (decide_eq_true (by omega)) | exact r_neq rfl rfl (decide_eq_false (by omega)) | exact r_neq rfl rfl rfl) rfl rfl rfl ?_
  refine WL.fin hK967 (fun _ _ h => h) ?_
  refine WC.condF rfl rfl ?_
  refine WC.skipF hK965 (fun _ _ h => h) ?_
  refine WC.seq fun K968 hK968 => ?_
  refine WC.seq fun K969 hK969 => ?_
  -- region 4
  refine WC.region ?_
  -- R4.0 18 := kernel.go:110 move
  refine WL.v (by first | exact r_move (v := .int _ _) rfl | exact r_move rfl) rfl rfl rfl ?_
  -- R4.1 19 := kernel.go:110 binOp
  refine WL.v (by first | exact r_lss rfl rfl (decide_eq_true (by omega)) | exact r_lss rfl rfl (decide_eq_false (by omega)) | exact r_lss rfl rfl rfl) rfl rfl rfl ?_
  -- R4.2 20 := kernel.go:110 move
  refine WL.v (by first | exact r_move (v := .bool _) rfl | exact r_move rfl) rfl rfl rfl ?_
  -- R4.3 21 := kernel.go:110 move
  refine WL.v (by first | exact r_move (v := .int _ _) rfl | exact r_move rfl) rfl rfl rfl ?_
  -- R4.4 22 := kernel.go:110 binOp
  refine WL.v (by first | exact r_geq rfl rfl (decide_eq_true (by omega)) | exact r_geq rfl rfl (decide_eq_false (by omega)) | exact r_geq rfl rfl rfl) rfl rfl rfl ?_
  -- R4.5 23 := kernel.go:110 pick
  refine WL.v (by first | exact r_pickT (v := .bool _) rfl rfl | exact r_pickF (v := .bool _) rfl rfl) rfl rfl rfl ?_
  refine WL.fin hK969 (fun _ _ h => h) ?_
  refine WC.condF rfl rfl ?_
  refine WC.skipF hK968 (fun _ _ h => h) ?_
  refine WC.seq fun K970 hK970 => ?_
  -- region 6 (draws)
  obtain ⟨Y1, qv1, XQ1, tv1, ov1, V1, st⟩ := st.view
  refine WC.heldS [18] [0, 1, 2, 3, 4, 5, 6, 7, 8, 9, 10, 11, 12] [13, 14, 15, 16, 17, 18] st ((V1.same st).pk) ty_mixed (by kernel_rfl) fun w st Kq hKq => ?_
  -- R6.0 26 := kernel.go:113 move
  refine HL.v (fun w st => by first | exact r_move (v := .pointer _) rfl | exact r_move rfl) rfl rfl rfl ?_
  -- R6.1 27 := kernel.go:113 move
  refine HL.v (fun w st => by first | exact r_move (v := .pointer _) rfl | exact r_move rfl) rfl rfl rfl ?_
  -- R6.2 28 := kernel.go:113 nilCheck
  refine HL.v (fun w st => by exact r_nilCheck rfl) rfl rfl rfl ?_
  -- R6.3 29 := kernel.go:113 fieldAddr
  refine HL.v (fun w st => by exact r_field ty_fld120_2 rfl) rfl rfl rfl ?_
  -- R6.4 30 := kernel.go:113 load
  refine HL.v (fun w st => by exact r_load1 (v := .pointer (some ⟨B.bp, 0, none⟩)) ty_one109 rfl (c_pk st (by decide))) rfl rfl rfl ?_
  -- R6.5 31 := kernel.go:113 move
  refine HL.v (fun w st => by first | exact r_move (v := .int _ _) rfl | exact r_move rfl) rfl rfl rfl ?_
  -- R6.6 32 := kernel.go:113 move
  refine HL.v (fun w st => by first | exact r_move (v := .int _ _) rfl | exact r_move rfl) rfl rfl rfl ?_
  -- R6.7 33 := kernel.go:113 move
  refine HL.v (fun w st => by first | exact r_move (v := .int _ _) rfl | exact r_move rfl) rfl rfl rfl ?_
  -- R6.8 34 := kernel.go:113 move
  refine HL.v (fun w st => by first | exact r_move (v := .pointer _) rfl | exact r_move rfl) rfl rfl rfl ?_
  -- R6.9 35 := kernel.go:113 nilCheck
  refine HL.v (fun w st => by exact r_nilCheck rfl) rfl rfl rfl ?_
  -- R6.10 36 := kernel.go:113 fieldAddr
  refine HL.v (fun w st => by exact r_field ty_fld120_1 rfl) rfl rfl rfl ?_
  -- R6.11 37 := kernel.go:113 load
  refine HL.v (fun w st => by exact r_load1 (v := .pointer (some ⟨B.br, 0, none⟩)) ty_one107 rfl (c_pk st (by decide))) rfl rfl rfl ?_
  -- R6.12 38 := kernel.go:113 move
  refine HL.v (fun w st => by first | exact r_move (v := .int _ _) rfl | exact r_move rfl) rfl rfl rfl ?_
  refine HL.fin hKq ?_
  refine TL.at ?_
  -- R6.13 39 := kernel.go:113 call
  refine WL.call (r_call ty_call102 rfl) rfl rfl rfl (heldBy_ok ht V1.r st) ?_
  rintro _ w ⟨X, ho, st⟩
  obtain ⟨a, c, b, rfl, hcc1, hcc2, ha, hcell⟩ := ho.form
  have st : S0 w0 Y1 w := st_dropL st
  have hone := (V1.same st).pk
  refine TL.nxt (hone) ?_
  refine TL.at ?_
  -- R6.14 40 := kernel.go:113 call
  refine WL.v (by exact r_len ty_usl152 rfl) rfl rfl rfl ?_
  refine TL.nxt (hone) ?_
  refine TL.at ?_
  -- R6.15 41 := kernel.go:113 binOp
  refine WL.v (by exact r_gtr (t := hb) rfl rfl (by rw [hhb, decide_eq_decide]; omega)) rfl rfl rfl ?_
  refine TL.nxt (hone) ?_
  refine TL.at ?_
  -- R6.16 42 := kernel.go:113 call
  obtain ⟨Y2, st, back2⟩ := (V1.same st).pol
  refine WL.call (r_call ty_call101 rfl) rfl rfl rfl (declareL_ok (u := u) (holds := hb) ht hr st) ?_
  rintro _ w ⟨rfl, st⟩
  have st := back2 st
  have hone := st.pk
  refine TL.nxt (hone) ?_
  refine TL.at ?_
  -- R6.17 43 := kernel.go:113 call
  refine WL.call (r_call ty_call88 rfl) rfl rfl rfl (done_ok st) ?_
  rintro _ w ⟨ovr, XO, hor, rfl, st⟩
  have hone := st.pk
  obtain ⟨ar, cr, br, rfl, -, -, -, -⟩ := hor.form
  obtain ⟨Yr, st, backr⟩ := KH.out (st.perm (List.perm_append_comm_assoc XO [_] l))
  refine TL.nxt (hone) ?_
  refine TL.at ?_
  -- R6.18 None := kernel.go:113 store
  refine WL.storeW (vs := [_, _, _]) st ty_agg34 rfl rfl rfl rfl rfl rfl ?_
  intro w st
  have hone := (backr st).pk
  refine TL.nxt' rfl ?_
  refine TL.wl ?_
  refine WL.fin hK970 (fun _ _ h => h) ?_
  refine WC.retC (vs := [_, _, _]) Tryz.results78 (fun _ _ h => h) rfl ty_agg34 rfl ⟨(by first | assumption | exact st.c0 (by first | decide | omega) | exact st.c1 (by first | decide | omega) | exact st.c2 (by first | decide | omega) | exact st.c3 (by first | decide | omega) | exact st.c4 (by first | decide | omega) | exact st.c5 (by first | decide | omega) | exact st.c6 (by first | decide | omega) | exact st.c7 (by first | decide | omega) | exact st.c8 (by first | decide | omega)), (by first | assumption | exact st.c0 (by first | decide | omega) | exact st.c1 (by first | decide | omega) | exact st.c2 (by first | decide | omega) | exact st.c3 (by first | decide | omega) | exact st.c4 (by first | decide | omega) | exact st.c5 (by first | decide | omega) | exact st.c6 (by first | decide | omega) | exact st.c7 (by first | decide | omega) | exact st.c8 (by first | decide | omega)), (by first | assumption | exact st.c0 (by first | decide | omega) | exact st.c1 (by first | decide | omega) | exact st.c2 (by first | decide | omega) | exact st.c3 (by first | decide | omega) | exact st.c4 (by first | decide | omega) | exact st.c5 (by first | decide | omega) | exact st.c6 (by first | decide | omega) | exact st.c7 (by first | decide | omega) | exact st.c8 (by first | decide | omega)), trivial⟩ ?_
  rw [e]
  exact ⟨_, rfl, _, XO, hor, rfl, (backr st).drop⟩
end Go.Proofs.Qxb6500834aGreatDoor

