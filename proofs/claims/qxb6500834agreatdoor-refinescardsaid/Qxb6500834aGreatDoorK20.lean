import Derived.Test.Qxb6500834aGreatDoorK19
set_option linter.unusedVariables false
set_option linter.unusedSimpArgs false
set_option maxRecDepth 20000
namespace Go.Proofs.Qxb6500834aGreatDoor
open Go.RowKit Go.E1 Go.Kern
variable {w0 : World} {L L' l I J K K' X Y : List HI} {w : World} {s : KS} {B : KA} {t r : Nat}

def answerP (s : KS) (t code : Nat) : KS :=
  { s with timers := if (s.tk t).timer = 0 then s.timers else cancelP s.timers (s.tk t).timer, tk := updN s.tk t { s.tk t with waiting := false, timer := 0, deadline := 0 }, told := s.told ++ [(t, (s.tk t).epoch, code)] }
theorem oE_one {a : Nat × Nat × Nat} : ∀ k, k < 3 → (oE a k).oneCell' = true := fun k hk => by
  match k with
  | 0 | 1 | 2 => rfl
  | k + 3 => omega
theorem low7 {T T' : TK} {j : Nat} (h : ∀ i, i < 7 → i ≠ j → tkF T' i = tkF T i) (h1 : T'.ec = T.ec) (h2 : T'.eo = T.eo) (hj : j < 7) : ∀ i, i < 135 → tkF T' i = if i = j then tkF T' j else tkF T i := tkF_low h1 h2 hj h
set_option maxHeartbeats 8000000 in
theorem answer_ok {code : Nat} (ht : t < 16) (hlen : s.told.length ≤ 1000000) (st : KH w0 B s l w) :
    Calls Tryz.prog 115 #[.pointer (some ⟨B.bk, 0, none⟩), .int .i64 (t : Nat), .int .i64 (code : Nat)] w (Ret fun v w' => v = .tuple #[] ∧ KH w0 B (answerP s t code) l w') := by
  obtain ⟨s0, hs0⟩ : ∃ s0, s0 = s := ⟨_, rfl⟩
  by_cases h0 : (s.tk t).timer = 0
  · have e : answerP s t code = { s with tk := updN s.tk t { s.tk t with waiting := false, timer := 0, deadline := 0 }, told := s.told ++ [(t, (s.tk t).epoch, code)] } := by unfold answerP; rw [if_pos h0]
    rw [e]
    obtain ⟨Y, qv, XQ, tv, ov, V, st⟩ := st.view
    refine enter [.pointer (some ⟨B.bk, 0, none⟩), .int .i64 (t : Nat), .int .i64 (code : Nat)] Tryz.func115 rfl Tryz.ntmps115 rfl ?_
    show WC _ _ _ 51 [] [(0, .pointer (some ⟨B.bk, 0, none⟩)), (1, .int .i64 (t : Nat)), (2, .int .i64 (code : Nat))] _
    refine WC.seq fun K590 hK590 => ?_
    -- region 0
    refine WC.region ?_
    -- R0.0 7 := acquire.go:97 move
    refine WL.v (by first | exact r_move (v := .pointer _) rfl | exact r_move rfl) rfl rfl rfl ?_
    -- R0.1 8 := acquire.go:97 move
    refine WL.v (by first | exact r_move (v := .int _ _) rfl | exact r_move rfl) rfl rfl rfl ?_
    -- R0.2 9 := acquire.go:97 nilCheck
    refine WL.v (by exact r_nilCheck rfl) rfl rfl rfl ?_
    -- R0.3 10 := acquire.go:97 fieldAddr
    refine WL.v (by exact r_field ty_fld120_3 rfl) rfl rfl rfl ?_
    -- R0.4 11 := acquire.go:97 indexAddr
    refine WL.v (by exact r_indexA ty_ar118 rfl rfl rfl (by omega)) rfl rfl rfl ?_
    -- R0.5 6 := acquire.go:97 assign
    refine WL.v (by first | exact r_assign (v := .pointer _) rfl | exact r_assign rfl) rfl rfl rfl ?_
    refine WL.fin hK590 (fun _ _ h => h) ?_
    refine WC.seq fun K591 hK591 => ?_
    refine WC.seq fun K592 hK592 => ?_
    -- region 1
    refine WC.region ?_
    -- R1.0 12 := acquire.go:98 move
    refine WL.v (by first | exact r_move (v := .pointer _) rfl | exact r_move rfl) rfl rfl rfl ?_
    -- R1.1 13 := acquire.go:98 nilCheck
    refine WL.v (by exact r_nilCheck rfl) rfl rfl rfl ?_
    -- R1.2 14 := acquire.go:98 fieldAddr
    refine WL.v (by exact r_field ty_fld117_4 rfl) rfl rfl rfl ?_
    -- R1.3 15 := acquire.go:98 load
    refine WL.v (by exact r_load1 (v := .int .u64 ((s.tk t).timer : Nat)) ty_one26 rfl (V.ct ht (j := 4) (by decide) (by omega) st)) rfl rfl rfl ?_
    -- R1.4 16 := acquire.go:98 binOp
    refine WL.v (by first | exact r_neq rfl rfl (decide_eq_true (by omega)) | exact r_neq rfl rfl (decide_eq_false (by omega)) | exact r_neq rfl rfl rfl) rfl rfl rfl ?_
    refine WL.fin hK592 (fun _ _ h => h) ?_
    refine WC.condF rfl rfl ?_
    refine WC.skipF hK591 (fun _ _ h => h) ?_
    have st := V.same st
    obtain ⟨ov, Y, st, back⟩ := st.ker
    refine WC.seq fun K593 hK593 => ?_
    -- region 3
    refine WC.region ?_
    -- R3.0 26 := acquire.go:101 move
    refine WL.v (by first | exact r_move (v := .pointer _) rfl | exact r_move rfl) rfl rfl rfl ?_
    -- R3.1 27 := acquire.go:101 move
    refine WL.v (by first | exact r_move (v := .pointer _) rfl | exact r_move rfl) rfl rfl rfl ?_
    -- R3.2 28 := acquire.go:101 move
    refine WL.v (by first | exact r_move (v := .pointer _) rfl | exact r_move rfl) rfl rfl rfl ?_
    -- R3.3 29 := acquire.go:101 nilCheck
    refine WL.v (by exact r_nilCheck rfl) rfl rfl rfl ?_
    -- R3.4 30 := acquire.go:101 fieldAddr
    refine WL.v (by exact r_field ty_fld117_3 rfl) rfl rfl rfl ?_
    -- R3.5 None := acquire.go:101 store
    refine WL.store (v := .bool false) st ty_one4 rfl rfl rfl (by omega) rfl rfl ?_
    intro w st
    have st := stE (kF_setT' (T' := { s.tk t with waiting := false }) (j := 3) ht (by decide) (by omega) (low7 (T := s.tk t) (T' := { s.tk t with waiting := false }) (j := 3) (fun i h1 h2 => by match i with | 0 | 1 | 2 | 4 | 5 | 6 => rfl | 3 => exact absurd rfl h2 | i + 7 => omega) rfl rfl (by decide))) st
    -- R3.6 31 := acquire.go:101 nilCheck
    refine WL.v (by exact r_nilCheck rfl) rfl rfl rfl ?_
    -- R3.7 32 := acquire.go:101 fieldAddr
    refine WL.v (by exact r_field ty_fld117_4 rfl) rfl rfl rfl ?_
    -- R3.8 None := acquire.go:101 store
    refine WL.store (v := .int .u64 0) st ty_one26 rfl rfl rfl (by omega) rfl rfl ?_
    intro w st
    have st := stE (kF_setT' (T' := { s.tk t with waiting := false, timer := 0 }) (j := 4) ht (by decide) (by omega) (fun i hi => by rw [updN_same]; exact low7 (T := { s.tk t with waiting := false }) (T' := { s.tk t with waiting := false, timer := 0 }) (j := 4) (fun i h1 h2 => by match i with | 0 | 1 | 2 | 3 | 5 | 6 => rfl | 4 => exact absurd rfl h2 | i + 7 => omega) rfl rfl (by decide) i hi)) st
    rw [updN_updN] at st
    -- R3.9 33 := acquire.go:101 nilCheck
    refine WL.v (by exact r_nilCheck rfl) rfl rfl rfl ?_
    -- R3.10 34 := acquire.go:101 fieldAddr
    refine WL.v (by exact r_field ty_fld117_5 rfl) rfl rfl rfl ?_
    -- R3.11 None := acquire.go:101 store
    refine WL.store (v := .int .u64 0) st ty_one26 rfl rfl rfl (by omega) rfl rfl ?_
    intro w st
    have st := stE (kF_setT' (T' := { s.tk t with waiting := false, timer := 0, deadline := 0 }) (j := 5) ht (by decide) (by omega) (fun i hi => by rw [updN_same]; exact low7 (T := { s.tk t with waiting := false, timer := 0 }) (T' := { s.tk t with waiting := false, timer := 0, deadline := 0 }) (j := 5) (fun i h1 h2 => by match i with | 0 | 1 | 2 | 3 | 4 | 6 => rfl | 5 => exact absurd rfl h2 | i + 7 => omega) rfl rfl (by decide) i hi)) st
    rw [updN_updN] at st
    have st := back st
    obtain ⟨ov, XO, Y, ho, st, back⟩ := st.told
    have ho : OL0 ov s.told XO := ho
    refine WL.fin hK593 (fun _ _ h => h) ?_
    -- region 4 (draws)
    refine WC.heldS2 [13, 14, 15, 16] [1, 2, 3, 4, 6, 7, 8, 9] [0, 5, 10, 11] [12, 13, 14, 15, 16] st (st) ty_mixed (by kernel_rfl) fun w st Kq Kq2 hKq hKq2 => ?_
    -- R4.1 36 := acquire.go:102 move
    refine HL.v (fun w st => by first | exact r_move (v := .pointer _) rfl | exact r_move rfl) rfl rfl rfl ?_
    -- R4.2 37 := acquire.go:102 nilCheck
    refine HL.v (fun w st => by exact r_nilCheck rfl) rfl rfl rfl ?_
    -- R4.3 38 := acquire.go:102 fieldAddr
    refine HL.v (fun w st => by exact r_field ty_fld120_6 rfl) rfl rfl rfl ?_
    -- R4.4 39 := acquire.go:102 load
    refine HL.v (fun w st => by exact r_load1 (v := ov) ty_one32 rfl (by rw [st.cell (List.mem_append_right XO List.mem_cons_self) (by decide)]; rfl)) rfl rfl rfl ?_
    -- R4.6 41 := acquire.go:102 move
    refine HL.v (fun w st => by first | exact r_move (v := .pointer _) rfl | exact r_move rfl) rfl rfl rfl ?_
    -- R4.7 42 := acquire.go:102 nilCheck
    refine HL.v (fun w st => by exact r_nilCheck rfl) rfl rfl rfl ?_
    -- R4.8 43 := acquire.go:102 fieldAddr
    refine HL.v (fun w st => by exact r_field ty_fld117_2 rfl) rfl rfl rfl ?_
    -- R4.9 44 := acquire.go:102 load
    refine HL.v (fun w st => by exact r_load1 (v := .int .u64 ((s.tk t).epoch : Nat)) ty_one26 rfl (by rw [c_tk (List.mem_append_right XO List.mem_cons_self) ht (j := 2) (by decide) (by omega) st]; show some (tkF (updN s.tk t _ t) 2) = _; rw [updN_same]; rfl)) rfl rfl rfl ?_
    refine HL.pure hKq ?_
    -- R4.0 35 := acquire.go:102 move
    refine HL.v (fun w _ => by first | exact r_move (v := .pointer _) rfl | exact r_move rfl) rfl rfl rfl ?_
    -- R4.5 40 := acquire.go:102 move
    refine HL.v (fun w _ => by first | exact r_move (v := .int _ _) rfl | exact r_move rfl) rfl rfl rfl ?_
    -- R4.10 45 := acquire.go:102 move
    refine HL.v (fun w _ => by first | exact r_move (v := .int _ _) rfl | exact r_move rfl) rfl rfl rfl ?_
    -- R4.11 46 := acquire.go:102 build
    refine HL.v (fun w _ => by exact r_build (ps := [(0, .int _ _), (1, .int _ _), (2, .int _ _)]) (vs := [_, _, _]) ty_pl83 ty_zero83 rfl (fill_step (pv := [_]) (cs' := [_, _, _]) rfl rfl rfl rfl (fill_step (pv := [_]) (cs' := [_, _, _]) rfl rfl rfl rfl (fill_step (pv := [_]) (cs' := [_, _, _]) rfl rfl rfl rfl (fill_nil))))) rfl rfl rfl ?_
    refine HL.fin hKq2 ?_
    refine TL.at ?_
    -- R4.12 47 := acquire.go:102 buildSlice
    first | refine WL.mkslice (m := 3) (vs := [.int _ _, .int _ _, .int _ _]) st ty_sl32 ty_zero83 rfl rfl rfl rfl rfl rfl ?_ | refine WL.mkslice (m := 3) (vs := [_, _, _]) st ty_sl32 ty_zero83 rfl rfl rfl rfl rfl rfl ?_ | refine WL.mkslice st ty_sl32 ty_zero83 rfl rfl rfl rfl rfl rfl ?_
    intro b47 w st
    refine TL.nxt (by first | exact st | exact st.drop | exact st.drop1 | exact st.drop2 | exact st.drop3 | exact st.drop4 | exact st.drop.drop | exact st.drop.drop1 | exact st.drop.drop2 | exact st.drop.drop3 | exact st.drop.drop4 | exact st.drop.drop.drop | exact st.drop.drop.drop.drop | exact st_dropL st | exact st_dropL st.drop | exact st_none st) ?_
    refine TL.at ?_
    -- R4.13 48 := acquire.go:102 call
    have c0 : ∀ k, k < 3 → w.cell? ⟨b47, 0 + k, none⟩ = some (oE (t, (s.tk t).epoch, code) k) := fun k hk => by rw [st.c0 (by omega), Nat.zero_add]; rfl
    refine WL.appL (bx := b47) (ox := 0) (a := (t, (s.tk t).epoch, code)) ho (st.perm (List.perm_append_comm_assoc [_] XO _)) ty_mk32 ty_zero83 rfl (by decide) rfl rfl c0 oE_one (by omega) (by omega) rfl rfl rfl ?_
    intro v' X' w ho st
    obtain ⟨a', c', b', rfl, -, -, -, -⟩ := ho.form
    have st := (st.perm (List.perm_append_comm_assoc X' [_] _)).drop
    have st := st.perm (List.perm_append_comm_assoc X' [_] _)
    refine TL.nxt' rfl ?_
    refine TL.at ?_
    -- R4.14 49 := acquire.go:102 nilCheck
    refine WL.v (by exact r_nilCheck rfl) rfl rfl rfl ?_
    refine TL.nxt' rfl ?_
    refine TL.at ?_
    -- R4.15 50 := acquire.go:102 fieldAddr
    refine WL.v (by exact r_field ty_fld120_6 rfl) rfl rfl rfl ?_
    refine TL.nxt' rfl ?_
    refine TL.at ?_
    -- R4.16 None := acquire.go:102 store
    refine WL.store (v := .slice a' _ c') st ty_one32 rfl rfl rfl (by decide) rfl rfl ?_
    intro w st
    have st := stE kF_setO st
    refine TL.nxt' rfl ?_
    refine TL.wl ?_
    refine WL.end0 Tryz.results115 (fun _ _ h => h) ?_
    exact ⟨_, rfl, rfl, back ho (st.perm (List.perm_append_comm_assoc [_] X' _))⟩
  · have e : answerP s t code = { s with timers := cancelP s.timers (s.tk t).timer, tk := updN s.tk t { s.tk t with waiting := false, timer := 0, deadline := 0 }, told := s.told ++ [(t, (s.tk t).epoch, code)] } := by unfold answerP; rw [if_neg h0]
    rw [e]
    obtain ⟨Y, qv, XQ, tv, ov, V, st⟩ := st.view
    refine enter [.pointer (some ⟨B.bk, 0, none⟩), .int .i64 (t : Nat), .int .i64 (code : Nat)] Tryz.func115 rfl Tryz.ntmps115 rfl ?_
    show WC _ _ _ 51 [] [(0, .pointer (some ⟨B.bk, 0, none⟩)), (1, .int .i64 (t : Nat)), (2, .int .i64 (code : Nat))] _
    refine WC.seq fun K594 hK594 => ?_
    -- region 0
    refine WC.region ?_
    -- R0.0 7 := acquire.go:97 move
    refine WL.v (by first | exact r_move (v := .pointer _) rfl | exact r_move rfl) rfl rfl rfl ?_
    -- R0.1 8 := acquire.go:97 move
    refine WL.v (by first | exact r_move (v := .int _ _) rfl | exact r_move rfl) rfl rfl rfl ?_
    -- R0.2 9 := acquire.go:97 nilCheck
    refine WL.v (by exact r_nilCheck rfl) rfl rfl rfl ?_
    -- R0.3 10 := acquire.go:97 fieldAddr
    refine WL.v (by exact r_field ty_fld120_3 rfl) rfl rfl rfl ?_
    -- R0.4 11 := acquire.go:97 indexAddr
    refine WL.v (by exact r_indexA ty_ar118 rfl rfl rfl (by omega)) rfl rfl rfl ?_
    -- R0.5 6 := acquire.go:97 assign
    refine WL.v (by first | exact r_assign (v := .pointer _) rfl | exact r_assign rfl) rfl rfl rfl ?_
    refine WL.fin hK594 (fun _ _ h => h) ?_
    refine WC.seq fun K595 hK595 => ?_
    refine WC.seq fun K596 hK596 => ?_
    -- region 1
    refine WC.region ?_
    -- R1.0 12 := acquire.go:98 move
    refine WL.v (by first | exact r_move (v := .pointer _) rfl | exact r_move rfl) rfl rfl rfl ?_
    -- R1.1 13 := acquire.go:98 nilCheck
    refine WL.v (by exact r_nilCheck rfl) rfl rfl rfl ?_
    -- R1.2 14 := acquire.go:98 fieldAddr
    refine WL.v (by exact r_field ty_fld117_4 rfl) rfl rfl rfl ?_
    -- R1.3 15 := acquire.go:98 load
    refine WL.v (by exact r_load1 (v := .int .u64 ((s.tk t).timer : Nat)) ty_one26 rfl (V.ct ht (j := 4) (by decide) (by omega) st)) rfl rfl rfl ?_
    -- R1.4 16 := acquire.go:98 binOp
    refine WL.v (by first | exact r_neq rfl rfl (decide_eq_true (by omega)) | exact r_neq rfl rfl (decide_eq_false (by omega)) | exact r_neq rfl rfl rfl) rfl rfl rfl ?_
    refine WL.fin hK596 (fun _ _ h => h) ?_
    refine WC.condT rfl rfl ?_
    -- region 2 (draws)
    refine WC.tailS 8 st ty_mixed (by kernel_rfl) fun w st Kq hKq => ?_
    -- R2.0 17 := acquire.go:99 move
    refine SL.v (by first | exact r_move (v := .pointer _) rfl | exact r_move rfl) rfl rfl rfl ?_
    -- R2.1 18 := acquire.go:99 nilCheck
    refine SL.v (by exact r_nilCheck rfl) rfl rfl rfl ?_
    -- R2.2 19 := acquire.go:99 fieldAddr
    refine SL.v (by exact r_field ty_fld120_0 rfl) rfl rfl rfl ?_
    -- R2.3 20 := acquire.go:99 load
    refine SL.v (by exact r_load1 (v := .pointer (some ⟨B.bm, 0, none⟩)) ty_one105 rfl (V.cm st)) rfl rfl rfl ?_
    -- R2.4 21 := acquire.go:99 move
    refine SL.v (by first | exact r_move (v := .pointer _) rfl | exact r_move rfl) rfl rfl rfl ?_
    -- R2.5 22 := acquire.go:99 nilCheck
    refine SL.v (by exact r_nilCheck rfl) rfl rfl rfl ?_
    -- R2.6 23 := acquire.go:99 fieldAddr
    refine SL.v (by exact r_field ty_fld117_4 rfl) rfl rfl rfl ?_
    -- R2.7 24 := acquire.go:99 load
    refine SL.v (by exact r_load1 (v := .int .u64 ((s.tk t).timer : Nat)) ty_one26 rfl (V.ct ht (j := 4) (by decide) (by omega) st)) rfl rfl rfl ?_
    refine SL.fin hKq ?_
    -- R2.8 25 := acquire.go:99 call
    obtain ⟨Y', mh, back⟩ := (V.same st).mach
    refine WL.call (r_call ty_call147 rfl) rfl rfl rfl (cancel_ok mh) ?_
    rintro _ w ⟨rfl, mh⟩
    have st := back (I := []) mh
    refine WL.fin hK595 (fun _ _ h => h) ?_
    obtain ⟨ov, Y, st, back⟩ := st.ker
    refine WC.seq fun K597 hK597 => ?_
    -- region 3
    refine WC.region ?_
    -- R3.0 26 := acquire.go:101 move
    refine WL.v (by first | exact r_move (v := .pointer _) rfl | exact r_move rfl) rfl rfl rfl ?_
    -- R3.1 27 := acquire.go:101 move
    refine WL.v (by first | exact r_move (v := .pointer _) rfl | exact r_move rfl) rfl rfl rfl ?_
    -- R3.2 28 := acquire.go:101 move
    refine WL.v (by first | exact r_move (v := .pointer _) rfl | exact r_move rfl) rfl rfl rfl ?_
    -- R3.3 29 := acquire.go:101 nilCheck
    refine WL.v (by exact r_nilCheck rfl) rfl rfl rfl ?_
    -- R3.4 30 := acquire.go:101 fieldAddr
    refine WL.v (by exact r_field ty_fld117_3 rfl) rfl rfl rfl ?_
    -- R3.5 None := acquire.go:101 store
    refine WL.store (v := .bool false) st ty_one4 rfl rfl rfl (by omega) rfl rfl ?_
    intro w st
    have st := stE (kF_setT' (T' := { s.tk t with waiting := false }) (j := 3) ht (by decide) (by omega) (low7 (T := s.tk t) (T' := { s.tk t with waiting := false }) (j := 3) (fun i h1 h2 => by match i with | 0 | 1 | 2 | 4 | 5 | 6 => rfl | 3 => exact absurd rfl h2 | i + 7 => omega) rfl rfl (by decide))) st
    -- R3.6 31 := acquire.go:101 nilCheck
    refine WL.v (by exact r_nilCheck rfl) rfl rfl rfl ?_
    -- R3.7 32 := acquire.go:101 fieldAddr
    refine WL.v (by exact r_field ty_fld117_4 rfl) rfl rfl rfl ?_
    -- R3.8 None := acquire.go:101 store
    refine WL.store (v := .int .u64 0) st ty_one26 rfl rfl rfl (by omega) rfl rfl ?_
    intro w st
    have st := stE (kF_setT' (T' := { s.tk t with waiting := false, timer := 0 }) (j := 4) ht (by decide) (by omega) (fun i hi => by rw [updN_same]; exact low7 (T := { s.tk t with waiting := false }) (T' := { s.tk t with waiting := false, timer := 0 }) (j := 4) (fun i h1 h2 => by match i with | 0 | 1 | 2 | 3 | 5 | 6 => rfl | 4 => exact absurd rfl h2 | i + 7 => omega) rfl rfl (by decide) i hi)) st
    rw [updN_updN] at st
    -- R3.9 33 := acquire.go:101 nilCheck
    refine WL.v (by exact r_nilCheck rfl) rfl rfl rfl ?_
    -- R3.10 34 := acquire.go:101 fieldAddr
    refine WL.v (by exact r_field ty_fld117_5 rfl) rfl rfl rfl ?_
    -- R3.11 None := acquire.go:101 store
    refine WL.store (v := .int .u64 0) st ty_one26 rfl rfl rfl (by omega) rfl rfl ?_
    intro w st
    have st := stE (kF_setT' (T' := { s.tk t with waiting := false, timer := 0, deadline := 0 }) (j := 5) ht (by decide) (by omega) (fun i hi => by rw [updN_same]; exact low7 (T := { s.tk t with waiting := false, timer := 0 }) (T' := { s.tk t with waiting := false, timer := 0, deadline := 0 }) (j := 5) (fun i h1 h2 => by match i with | 0 | 1 | 2 | 3 | 4 | 6 => rfl | 5 => exact absurd rfl h2 | i + 7 => omega) rfl rfl (by decide) i hi)) st
    rw [updN_updN] at st
    have st := back st
    obtain ⟨ov, XO, Y, ho, st, back⟩ := st.told
    have ho : OL0 ov s.told XO := ho
    refine WL.fin hK597 (fun _ _ h => h) ?_
    -- region 4 (draws)
    refine WC.heldS2 [13, 14, 15, 16] [1, 2, 3, 4, 6, 7, 8, 9] [0, 5, 10, 11] [12, 13, 14, 15, 16] st (st) ty_mixed (by kernel_rfl) fun w st Kq Kq2 hKq hKq2 => ?_
    -- R4.1 36 := acquire.go:102 move
    refine HL.v (fun w st => by first | exact r_move (v := .pointer _) rfl | exact r_move rfl) rfl rfl rfl ?_
    -- R4.2 37 := acquire.go:102 nilCheck
    refine HL.v (fun w st => by exact r_nilCheck rfl) rfl rfl rfl ?_
    -- R4.3 38 := acquire.go:102 fieldAddr
    refine HL.v (fun w st => by exact r_field ty_fld120_6 rfl) rfl rfl rfl ?_
    -- R4.4 39 := acquire.go:102 load
    refine HL.v (fun w st => by exact r_load1 (v := ov) ty_one32 rfl (by rw [st.cell (List.mem_append_right XO List.mem_cons_self) (by decide)]; rfl)) rfl rfl rfl ?_
    -- R4.6 41 := acquire.go:102 move
    refine HL.v (fun w st => by first | exact r_move (v := .pointer _) rfl | exact r_move rfl) rfl rfl rfl ?_
    -- R4.7 42 := acquire.go:102 nilCheck
    refine HL.v (fun w st => by exact r_nilCheck rfl) rfl rfl rfl ?_
    -- R4.8 43 := acquire.go:102 fieldAddr
    refine HL.v (fun w st => by exact r_field ty_fld117_2 rfl) rfl rfl rfl ?_
    -- R4.9 44 := acquire.go:102 load
    refine HL.v (fun w st => by exact r_load1 (v := .int .u64 ((s.tk t).epoch : Nat)) ty_one26 rfl (by rw [c_tk (List.mem_append_right XO List.mem_cons_self) ht (j := 2) (by decide) (by omega) st]; show some (tkF (updN s.tk t _ t) 2) = _; rw [updN_same]; rfl)) rfl rfl rfl ?_
    refine HL.pure hKq ?_
    -- R4.0 35 := acquire.go:102 move
    refine HL.v (fun w _ => by first | exact r_move (v := .pointer _) rfl | exact r_move rfl) rfl rfl rfl ?_
    -- R4.5 40 := acquire.go:102 move
    refine HL.v (fun w _ => by first | exact r_move (v := .int _ _) rfl | exact r_move rfl) rfl rfl rfl ?_
    -- R4.10 45 := acquire.go:102 move
    refine HL.v (fun w _ => by first | exact r_move (v := .int _ _) rfl | exact r_move rfl) rfl rfl rfl ?_
    -- R4.11 46 := acquire.go:102 build
    refine HL.v (fun w _ => by exact r_build (ps := [(0, .int _ _), (1, .int _ _), (2, .int _ _)]) (vs := [_, _, _]) ty_pl83 ty_zero83 rfl (fill_step (pv := [_]) (cs' := [_, _, _]) rfl rfl rfl rfl (fill_step (pv := [_]) (cs' := [_, _, _]) rfl rfl rfl rfl (fill_step (pv := [_]) (cs' := [_, _, _]) rfl rfl rfl rfl (fill_nil))))) rfl rfl rfl ?_
    refine HL.fin hKq2 ?_
    refine TL.at ?_
    -- R4.12 47 := acquire.go:102 buildSlice
    first | refine WL.mkslice (m := 3) (vs := [.int _ _, .int _ _, .int _ _]) st ty_sl32 ty_zero83 rfl rfl rfl rfl rfl rfl ?_ | refine WL.mkslice (m := 3) (vs := [_, _, _]) st ty_sl32 ty_zero83 rfl rfl rfl rfl rfl rfl ?_ | refine WL.mkslice st ty_sl32 ty_zero83 rfl rfl rfl rfl rfl rfl ?_
    intro b47 w st
    refine TL.nxt (by first | exact st | exact st.drop | exact st.drop1 | exact st.drop2 | exact st.drop3 | exact st.drop4 | exact st.drop.drop | exact st.drop.drop1 | exact st.drop.drop2 | exact st.drop.drop3 | exact st.drop.drop4 | exact st.drop.drop.drop | exact st.drop.drop.drop.drop | exact st_dropL st | exact st_dropL st.drop | exact st_none st) ?_
    refine TL.at ?_
    -- R4.13 48 := acquire.go:102 call
    have c0 : ∀ k, k < 3 → w.cell? ⟨b47, 0 + k, none⟩ = some (oE (t, (s.tk t).epoch, code) k) := fun k hk => by rw [st.c0 (by omega), Nat.zero_add]; rfl
    refine WL.appL (bx := b47) (ox := 0) (a := (t, (s.tk t).epoch, code)) ho (st.perm (List.perm_append_comm_assoc [_] XO _)) ty_mk32 ty_zero83 rfl (by decide) rfl rfl c0 oE_one (by omega) (by omega) rfl rfl rfl ?_
    intro v' X' w ho st
    obtain ⟨a', c', b', rfl, -, -, -, -⟩ := ho.form
    have st := (st.perm (List.perm_append_comm_assoc X' [_] _)).drop
    have st := st.perm (List.perm_append_comm_assoc X' [_] _)
    refine TL.nxt' rfl ?_
    refine TL.at ?_
    -- R4.14 49 := acquire.go:102 nilCheck
    refine WL.v (by exact r_nilCheck rfl) rfl rfl rfl ?_
    refine TL.nxt' rfl ?_
    refine TL.at ?_
    -- R4.15 50 := acquire.go:102 fieldAddr
    refine WL.v (by exact r_field ty_fld120_6 rfl) rfl rfl rfl ?_
    refine TL.nxt' rfl ?_
    refine TL.at ?_
    -- R4.16 None := acquire.go:102 store
    refine WL.store (v := .slice a' _ c') st ty_one32 rfl rfl rfl (by decide) rfl rfl ?_
    intro w st
    have st := stE kF_setO st
    refine TL.nxt' rfl ?_
    refine TL.wl ?_
    refine WL.end0 Tryz.results115 (fun _ _ h => h) ?_
    exact ⟨_, rfl, rfl, back ho (st.perm (List.perm_append_comm_assoc [_] X' _))⟩

theorem releaseT_ok {br : Nat} {held : Nat → Nat → Nat} {queue : Nat → List (Nat × Nat)} (ht : t < 16) (hr : r < 20) (st : TH w0 br held queue l w) :
    Calls Tryz.prog 106 #[.pointer (some ⟨br, 0, none⟩), .int .i64 (t : Nat), .int .i64 (r : Nat)] w (Ret fun u w' => u = .tuple #[] ∧ TH w0 br (upd2 held t r 0) queue l w') := by
  obtain ⟨qv, XQ, hq, st⟩ := st
  refine (releaseR_ok ht hr st).mono ?_
  rintro e w' ⟨u, rfl, rfl, st⟩
  exact ⟨_, rfl, rfl, qv, XQ, hq, st⟩
theorem grantT_ok {br u : Nat} {held : Nat → Nat → Nat} {queue : Nat → List (Nat × Nat)} (ht : t < 16) (hr : r < 20) (hh : held t r ≤ 16) (hu : u ≤ 16) (st : TH w0 br held queue l w) :
    Calls Tryz.prog 133 #[.pointer (some ⟨br, 0, none⟩), .int .i64 (t : Nat), .int .i64 (r : Nat), .int .i64 (u : Nat)] w (Ret fun v w' => v = .tuple #[] ∧ TH w0 br (upd2 held t r (held t r + u)) queue l w') := by
  obtain ⟨qv, XQ, hq, st⟩ := st
  refine (grant_ok ht hr hh hu st).mono ?_
  rintro e w' ⟨u, rfl, rfl, st⟩
  exact ⟨_, rfl, rfl, qv, XQ, hq, st⟩
def relP (held : Nat → Nat → Nat) (t : Nat) (Ls : List Nat) : Nat → Nat → Nat := fun a b => if a = t ∧ b ∈ Ls then 0 else held a b
theorem relP_snoc {held : Nat → Nat → Nat} {Ls : List Nat} : upd2 (relP held t Ls) t r 0 = relP held t (Ls ++ [r]) := by
  funext a b
  unfold upd2 relP
  by_cases h : a = t ∧ b = r
  · rw [if_pos h, if_pos ⟨h.1, by simp [h.2]⟩]
  · rw [if_neg h]
    by_cases h2 : a = t ∧ b ∈ Ls
    · rw [if_pos h2, if_pos ⟨h2.1, by simp [h2.2]⟩]
    · rw [if_neg h2, if_neg (by
        rintro ⟨h3, h4⟩
        rcases List.mem_append.1 h4 with h5 | h5
        · exact h2 ⟨h3, h5⟩
        · exact h ⟨h3, by simpa using h5⟩)]
theorem relP_all {held : Nat → Nat → Nat} : ∀ a b, a < 16 → b < 20 → relP held t (heldByP held t) a b = zapRow held t a b := fun a b ha hb => by
  unfold relP zapRow heldByP
  by_cases h : a = t
  · subst h
    rw [if_pos rfl]
    by_cases h2 : 0 < held a b
    · rw [if_pos ⟨rfl, List.mem_filter.2 ⟨List.mem_range.2 hb, decide_eq_true h2⟩⟩]
    · split <;> omega
  · rw [if_neg h, if_neg (fun h2 => h h2.1)]
set_option maxHeartbeats 4000000 in
theorem releaseAll_ok (ht : t < 16) (st : KH w0 B s l w) :
    Calls Tryz.prog 111 #[.pointer (some ⟨B.bk, 0, none⟩), .int .i64 (t : Nat)] w (Ret fun v w' => v = .tuple #[] ∧ KH w0 B { s with held := zapRow s.held t } l w') := by
  obtain ⟨Y, qv, XQ, tv, ov, V, st⟩ := st.view
  refine enter [.pointer (some ⟨B.bk, 0, none⟩), .int .i64 (t : Nat)] Tryz.func111 rfl Tryz.ntmps111 rfl ?_
  show WC _ _ _ 25 [] [(0, .pointer (some ⟨B.bk, 0, none⟩)), (1, .int .i64 (t : Nat))] _
  refine WC.seq fun K598 hK598 => ?_
  -- region 0
  refine WC.region ?_
  -- R0.0 6 := acquire.go:127 move
  refine WL.v (by first | exact r_move (v := .pointer _) rfl | exact r_move rfl) rfl rfl rfl ?_
  -- R0.1 7 := acquire.go:127 nilCheck
  refine WL.v (by exact r_nilCheck rfl) rfl rfl rfl ?_
  -- R0.2 8 := acquire.go:127 fieldAddr
  refine WL.v (by exact r_field ty_fld120_1 rfl) rfl rfl rfl ?_
  -- R0.3 9 := acquire.go:127 load
  refine WL.v (by exact r_load1 (v := .pointer (some ⟨B.br, 0, none⟩)) ty_one107 rfl (V.cr st)) rfl rfl rfl ?_
  -- R0.4 10 := acquire.go:127 move
  refine WL.v (by first | exact r_move (v := .int _ _) rfl | exact r_move rfl) rfl rfl rfl ?_
  -- R0.5 11 := acquire.go:127 call
  refine WL.call (r_call ty_call102 rfl) rfl rfl rfl (heldBy_ok ht V.r st) ?_
  rintro _ w ⟨X, ho, st⟩
  have st := V.back st
  obtain ⟨Ls, hLs⟩ : ∃ Ls, Ls = heldByP s.held t := ⟨_, rfl⟩
  have hL20 : ∀ o, o ∈ Ls → o < 20 := fun o h => by rw [hLs] at h; exact List.mem_range.1 (List.mem_filter.1 h).1
  rw [← hLs] at ho
  obtain ⟨a, c, b, rfl, hc1, hc2, ha, hcell⟩ := ho.form
  -- R0.6 12 := acquire.go:127 call
  refine WL.v (by exact r_len ty_usl152 rfl) rfl rfl rfl ?_
  -- R0.7 13 := acquire.go:127 move
  refine WL.v (by first | exact r_move (v := .int _ _) rfl | exact r_move rfl) rfl rfl rfl ?_
  refine WL.fin hK598 (fun _ _ h => h) ?_
  refine WC.block ?_
  refine WC.loop (ι := Nat) (fun i => [(0, .pointer (some ⟨B.bk, 0, none⟩)), (1, .int .i64 (t : Nat)), (11, .slice a Ls.length c), (12, .int .i64 (Ls.length : Nat)), (13, .int .i64 (i : Nat))])
    (fun i w' => i ≤ Ls.length ∧ KH w0 B { s with held := relP s.held t (Ls.take i) } (X ++ l) w') (fun i => Ls.length - i) 0 ⟨Nat.zero_le _, st.heldE (held' := relP s.held t []) (fun a b _ _ => by unfold relP; rw [if_neg (by simp)])⟩ ?_ ?_
  · skip
    repeat (first | exact sub_nil _ | refine sub_cons rfl rfl ?_)
  clear st V
  rintro i w ⟨hi, st⟩ K1 hK1
  by_cases hil : i = Ls.length
  · subst hil
    rw [List.take_length] at st
    refine WC.seq fun K599 hK599 => ?_
    -- region 1
    refine WC.region ?_
    -- R1.0 14 := acquire.go:127 binOp
    refine WL.v (by first | exact r_lss rfl rfl (decide_eq_true (by omega)) | exact r_lss rfl rfl (decide_eq_false (by omega)) | exact r_lss rfl rfl rfl) rfl rfl rfl ?_
    refine WL.fin hK599 (fun _ _ h => h) ?_
    refine WC.seq fun K600 hK600 => ?_
    refine WC.condF rfl rfl ?_
    refine WC.exit0 Tryz.results111 (fun _ _ h => h) ?_
    exact ⟨_, rfl, rfl, (st.dropL.heldE (held' := zapRow s.held t) (fun a b ha hb => by rw [hLs]; exact relP_all a b ha hb))⟩
  have hil' : i < Ls.length := by omega
  obtain ⟨o, hoi⟩ : ∃ o, Ls[i]? = some o := ⟨Ls[i], List.getElem?_eq_getElem hil'⟩
  have ho20 := hL20 o (List.mem_of_getElem? hoi)
  obtain rfl := ha (by omega)
  obtain ⟨Y, qv, XQ, tv, ov, V, st⟩ := st.view
  have hce := hcell st (fun x hx => V.ls (List.mem_append_left _ hx)) i o hoi 0 (by decide)
  refine WC.seq fun K601 hK601 => ?_
  -- region 1
  refine WC.region ?_
  -- R1.0 14 := acquire.go:127 binOp
  refine WL.v (by first | exact r_lss rfl rfl (decide_eq_true (by omega)) | exact r_lss rfl rfl (decide_eq_false (by omega)) | exact r_lss rfl rfl rfl) rfl rfl rfl ?_
  refine WL.fin hK601 (fun _ _ h => h) ?_
  refine WC.seq fun K602 hK602 => ?_
  refine WC.condT rfl rfl ?_
  refine WC.skipF hK602 (fun _ _ h => h) ?_
  refine WC.seq fun K603 hK603 => ?_
  refine WC.block ?_
  refine WC.seq fun K604 hK604 => ?_
  -- region 2
  refine WC.region ?_
  -- R2.0 15 := acquire.go:127 indexAddr
  refine WL.v (by exact r_indexS (j := i) ty_sl152 rfl rfl rfl (by omega)) rfl rfl rfl ?_
  -- R2.1 16 := acquire.go:127 load
  refine WL.v (by exact r_load1 (v := .int .i64 (o : Nat)) ty_one77 rfl (by rw [Nat.zero_add]; exact hce)) rfl rfl rfl ?_
  -- R2.2 5 := acquire.go:127 assign
  refine WL.v (by first | exact r_assign (v := .int _ _) rfl | exact r_assign rfl) rfl rfl rfl ?_
  refine WL.fin hK604 (fun _ _ h => h) ?_
  -- region 3
  refine WC.region ?_
  -- R3.0 17 := acquire.go:128 move
  refine WL.v (by first | exact r_move (v := .pointer _) rfl | exact r_move rfl) rfl rfl rfl ?_
  -- R3.1 18 := acquire.go:128 nilCheck
  refine WL.v (by exact r_nilCheck rfl) rfl rfl rfl ?_
  -- R3.2 19 := acquire.go:128 fieldAddr
  refine WL.v (by exact r_field ty_fld120_1 rfl) rfl rfl rfl ?_
  -- R3.3 20 := acquire.go:128 load
  refine WL.v (by exact r_load1 (v := .pointer (some ⟨B.br, 0, none⟩)) ty_one107 rfl (V.cr st)) rfl rfl rfl ?_
  -- R3.4 21 := acquire.go:128 move
  refine WL.v (by first | exact r_move (v := .int _ _) rfl | exact r_move rfl) rfl rfl rfl ?_
  -- R3.5 22 := acquire.go:128 move
  refine WL.v (by first | exact r_move (v := .int _ _) rfl | exact r_move rfl) rfl rfl rfl ?_
  -- R3.6 23 := acquire.go:128 call
  obtain ⟨Y', th, back⟩ := (V.same st).tab
  refine WL.call (r_call ty_call106 rfl) rfl rfl rfl (releaseT_ok ht ho20 th) ?_
  rintro _ w ⟨rfl, th⟩
  have st := back th
  have e : upd2 (relP s.held t (Ls.take i)) t o 0 = relP s.held t (Ls.take (i + 1)) := by rw [List.take_add_one, hoi]; exact relP_snoc
  have st : KH w0 B { s with held := relP s.held t (Ls.take (i + 1)) } (X ++ l) w := by rw [← e]; exact st
  refine WL.fin hK603 (fun _ _ h => h) ?_
  -- region 4
  refine WC.region ?_
  -- R4.0 24 := acquire.go:127 binOp
  refine WL.v (by first | exact r_add rfl rfl (wi64 (by omega) (by omega)) | exact r_add rfl rfl rfl) rfl rfl rfl ?_
  -- R4.1 13 := acquire.go:127 move
  refine WL.v (by first | exact r_move (v := .int _ _) rfl | exact r_move rfl) rfl rfl rfl ?_
  refine WL.next hK1 (fun _ _ h => h) (i + 1) ⟨hil', st⟩ (by omega) (by repeat (first | exact sub_nil _ | refine sub_cons rfl rfl ?_))
end Go.Proofs.Qxb6500834aGreatDoor

