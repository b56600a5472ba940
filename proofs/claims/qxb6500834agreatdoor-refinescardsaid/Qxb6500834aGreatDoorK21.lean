import Derived.Test.Qxb6500834aGreatDoorK20
set_option linter.unusedVariables false
set_option linter.unusedSimpArgs false
set_option maxRecDepth 20000
namespace Go.Proofs.Qxb6500834aGreatDoor
open Go.RowKit Go.E1 Go.Kern
variable {w0 : World} {L L' l I J K K' X Y : List HI} {w : World} {s : KS} {B : KA} {t r : Nat}

def inc64 (x : Nat) : Nat := (x + 1) % 18446744073709551616
def abort1 (s : KS) (t : Nat) : KS := { s with tk := updN s.tk t { s.tk t with n := 0 }, cells := rollC (s.tk t).ec (s.tk t).eo (s.tk t).n s.cells, queue := withdrawP s.queue t, held := zapRow s.held t }
def bumpP (s : KS) (t : Nat) : KS := { s with tk := updN s.tk t { s.tk t with epoch := inc64 (s.tk t).epoch } }
def abortP (s : KS) (t : Nat) : KS := bumpP (answerP (abort1 s t) t 3) t
set_option maxHeartbeats 4000000 in
theorem abort_ok (ht : t < 16) (hn : (s.tk t).n ≤ 64) (hec : ∀ i, (s.tk t).ec i < 12) (hlen : s.told.length ≤ 1000000) (st : KH w0 B s l w) :
    Calls Tryz.prog 117 #[.pointer (some ⟨B.bk, 0, none⟩), .int .i64 (t : Nat)] w (Ret fun v w' => v = .tuple #[] ∧ KH w0 B (abortP s t) l w') := by
  obtain ⟨ov0, Y0, st, back0⟩ := st.ker
  refine enter [.pointer (some ⟨B.bk, 0, none⟩), .int .i64 (t : Nat)] Tryz.func117 rfl Tryz.ntmps117 rfl ?_
  show WC _ _ _ 36 [] [(0, .pointer (some ⟨B.bk, 0, none⟩)), (1, .int .i64 (t : Nat))] _
  refine WC.seq fun K605 hK605 => ?_
  -- region 0
  refine WC.region ?_
  -- R0.0 5 := acquire.go:138 move
  refine WL.v (by first | exact r_move (v := .pointer _) rfl | exact r_move rfl) rfl rfl rfl ?_
  -- R0.1 6 := acquire.go:138 move
  refine WL.v (by first | exact r_move (v := .int _ _) rfl | exact r_move rfl) rfl rfl rfl ?_
  -- R0.2 7 := acquire.go:138 nilCheck
  refine WL.v (by exact r_nilCheck rfl) rfl rfl rfl ?_
  -- R0.3 8 := acquire.go:138 fieldAddr
  refine WL.v (by exact r_field ty_fld120_3 rfl) rfl rfl rfl ?_
  -- R0.4 9 := acquire.go:138 indexAddr
  refine WL.v (by exact r_indexA ty_ar118 rfl rfl rfl (by omega)) rfl rfl rfl ?_
  -- R0.5 4 := acquire.go:138 assign
  refine WL.v (by first | exact r_assign (v := .pointer _) rfl | exact r_assign rfl) rfl rfl rfl ?_
  refine WL.fin hK605 (fun _ _ h => h) ?_
  refine WC.seq fun K606 hK606 => ?_
  -- region 1 (draws)
  refine WC.tailS 6 st ty_mixed (by kernel_rfl) fun w st Kq hKq => ?_
  -- R1.0 10 := acquire.go:139 move
  refine SL.v (by first | exact r_move (v := .pointer _) rfl | exact r_move rfl) rfl rfl rfl ?_
  -- R1.1 11 := acquire.go:139 nilCheck
  refine SL.v (by exact r_nilCheck rfl) rfl rfl rfl ?_
  -- R1.2 12 := acquire.go:139 fieldAddr
  refine SL.v (by exact r_field ty_fld117_6 rfl) rfl rfl rfl ?_
  -- R1.3 13 := acquire.go:139 move
  refine SL.v (by first | exact r_move (v := .pointer _) rfl | exact r_move rfl) rfl rfl rfl ?_
  -- R1.4 14 := acquire.go:139 nilCheck
  refine SL.v (by exact r_nilCheck rfl) rfl rfl rfl ?_
  -- R1.5 15 := acquire.go:139 fieldAddr
  refine SL.v (by exact r_field ty_fld120_4 rfl) rfl rfl rfl ?_
  refine SL.fin hKq ?_
  -- R1.6 16 := acquire.go:139 call
  refine WL.call (r_call ty_call151 rfl) rfl rfl rfl (rollBack_ok ht (a := 0 + 3 + t * 135 + 6) (by omega) hn hec st) ?_
  rintro _ w ⟨rfl, st⟩
  have st := back0 st
  obtain ⟨Y, qv, XQ, tv, ov, V, st⟩ := st.view
  refine WL.fin hK606 (fun _ _ h => h) ?_
  refine WC.seq fun K607 hK607 => ?_
  -- region 2
  refine WC.region ?_
  -- R2.0 17 := acquire.go:140 move
  refine WL.v (by first | exact r_move (v := .pointer _) rfl | exact r_move rfl) rfl rfl rfl ?_
  -- R2.1 18 := acquire.go:140 nilCheck
  refine WL.v (by exact r_nilCheck rfl) rfl rfl rfl ?_
  -- R2.2 19 := acquire.go:140 fieldAddr
  refine WL.v (by exact r_field ty_fld120_1 rfl) rfl rfl rfl ?_
  -- R2.3 20 := acquire.go:140 load
  refine WL.v (by exact r_load1 (v := .pointer (some ⟨B.br, 0, none⟩)) ty_one107 rfl (V.cr st)) rfl rfl rfl ?_
  -- R2.4 21 := acquire.go:140 move
  refine WL.v (by first | exact r_move (v := .int _ _) rfl | exact r_move rfl) rfl rfl rfl ?_
  -- R2.5 22 := acquire.go:140 call
  obtain ⟨Y', th, back⟩ := (V.same st).tab
  refine WL.call (r_call ty_call114 rfl) rfl rfl rfl (withdraw_ok (t := t) th) ?_
  rintro _ w ⟨rfl, th⟩
  have st := back th
  refine WL.fin hK607 (fun _ _ h => h) ?_
  refine WC.seq fun K608 hK608 => ?_
  -- region 3
  refine WC.region ?_
  -- R3.0 23 := acquire.go:141 move
  refine WL.v (by first | exact r_move (v := .pointer _) rfl | exact r_move rfl) rfl rfl rfl ?_
  -- R3.1 24 := acquire.go:141 move
  refine WL.v (by first | exact r_move (v := .int _ _) rfl | exact r_move rfl) rfl rfl rfl ?_
  -- R3.2 25 := acquire.go:141 call
  refine WL.call (r_call ty_call111 rfl) rfl rfl rfl (releaseAll_ok ht st) ?_
  rintro _ w ⟨rfl, st⟩
  refine WL.fin hK608 (fun _ _ h => h) ?_
  refine WC.seq fun K609 hK609 => ?_
  -- region 4
  refine WC.region ?_
  -- R4.0 26 := acquire.go:142 move
  refine WL.v (by first | exact r_move (v := .pointer _) rfl | exact r_move rfl) rfl rfl rfl ?_
  -- R4.1 27 := acquire.go:142 move
  refine WL.v (by first | exact r_move (v := .int _ _) rfl | exact r_move rfl) rfl rfl rfl ?_
  -- R4.2 28 := acquire.go:142 call
  have st : KH w0 B (abort1 s t) l w := st
  refine WL.call (r_call ty_call115 rfl) rfl rfl rfl (answer_ok (s := abort1 s t) (code := 3) ht hlen st) ?_
  rintro _ w ⟨rfl, st⟩
  obtain ⟨s2, hs2⟩ : ∃ s2, s2 = answerP (abort1 s t) t 3 := ⟨_, rfl⟩
  have e : abortP s t = bumpP s2 t := by rw [hs2]; rfl
  rw [← hs2] at st
  obtain ⟨ov1, Y1, st, back1⟩ := st.ker
  refine WL.fin hK609 (fun _ _ h => h) ?_
  -- region 5
  refine WC.region ?_
  -- R5.0 29 := acquire.go:143 move
  refine WL.v (by first | exact r_move (v := .pointer _) rfl | exact r_move rfl) rfl rfl rfl ?_
  -- R5.1 30 := acquire.go:143 nilCheck
  refine WL.v (by exact r_nilCheck rfl) rfl rfl rfl ?_
  -- R5.2 31 := acquire.go:143 fieldAddr
  refine WL.v (by exact r_field ty_fld117_2 rfl) rfl rfl rfl ?_
  -- R5.3 32 := acquire.go:143 load
  refine WL.v (by exact r_load1 (v := .int .u64 ((s2.tk t).epoch : Nat)) ty_one26 rfl (c_tk List.mem_cons_self ht (j := 2) (by decide) (by omega) st)) rfl rfl rfl ?_
  -- R5.4 33 := acquire.go:143 binOp
  refine WL.v (by exact r_add (r := ((inc64 (s2.tk t).epoch : Nat) : Int)) rfl rfl (by show (((s2.tk t).epoch : Nat) + 1 : Int) % 18446744073709551616 = (((s2.tk t).epoch + 1) % 18446744073709551616 : Nat); omega)) rfl rfl rfl ?_
  -- R5.5 34 := acquire.go:143 nilCheck
  refine WL.v (by exact r_nilCheck rfl) rfl rfl rfl ?_
  -- R5.6 35 := acquire.go:143 fieldAddr
  refine WL.v (by exact r_field ty_fld117_2 rfl) rfl rfl rfl ?_
  -- R5.7 None := acquire.go:143 store
  refine WL.store (v := .int .u64 (inc64 (s2.tk t).epoch : Nat)) st ty_one26 rfl rfl rfl (by omega) rfl rfl ?_
  intro w st
  have st := stE (kF_setT' (T' := { s2.tk t with epoch := inc64 (s2.tk t).epoch }) (j := 2) ht (by decide) (by omega) (low7 (T := s2.tk t) (T' := { s2.tk t with epoch := inc64 (s2.tk t).epoch }) (j := 2) (fun i h1 h2 => by match i with | 0 | 1 | 3 | 4 | 5 | 6 => rfl | 2 => exact absurd rfl h2 | i + 7 => omega) rfl rfl (by decide))) st
  refine WL.end0 Tryz.results117 (fun _ _ h => h) ?_
  exact ⟨_, rfl, rfl, by rw [e]; exact back1 st⟩

theorem sumP_ge {f : Nat → Nat} {t : Nat} : ∀ n, t < n → f t ≤ sumP f n
  | 0, h => absurd h (Nat.not_lt_zero _)
  | n + 1, h => by
    show f t ≤ sumP f n + f n
    rcases Nat.lt_succ_iff_lt_or_eq.1 h with h | rfl
    · have := sumP_ge (f := f) n h; omega
    · omega
theorem free_room {held : Nat → Nat → Nat} {u : Nat} (ht : t < 16) (h : (u : Int) ≤ freeP held r) : held t r + u ≤ totP r := by
  have := sumP_ge (f := fun t => held t r) 16 ht
  unfold freeP at h
  omega
def admissibleP (s : KS) (t r u : Nat) : Bool := if freeP s.held r < u then false else if s.mode = 3 then safeP s.claim (upd2 s.held t r (s.held t r + u)) else true
theorem admissible_room {u : Nat} (ht : t < 16) (h : admissibleP s t r u = true) : s.held t r + u ≤ totP r := by
  unfold admissibleP at h
  by_cases h1 : freeP s.held r < u
  · rw [if_pos h1] at h; cases h
  · exact free_room ht (by omega)
set_option maxHeartbeats 4000000 in
theorem admissible_ok {u : Nat} (ht : t < 16) (hr : r < 20) (hu : u ≤ 16) (hh : ∀ t r, s.held t r ≤ 16) (hc : ∀ t r, s.claim t r ≤ 16) (st : KH w0 B s l w) :
    Calls Tryz.prog 140 #[.pointer (some ⟨B.bk, 0, none⟩), .int .i64 (t : Nat), .int .i64 (r : Nat), .int .i64 (u : Nat)] w (Ret fun v w' => v = .bool (admissibleP s t r u) ∧ KH w0 B s l w') := by
  obtain ⟨Y, qv, XQ, tv, ov, V, st⟩ := st.view
  by_cases h1 : freeP s.held r < u
  · have e : admissibleP s t r u = false := if_pos h1
    refine enter [.pointer (some ⟨B.bk, 0, none⟩), .int .i64 (t : Nat), .int .i64 (r : Nat), .int .i64 (u : Nat)] Tryz.func140 rfl Tryz.ntmps140 rfl ?_
    show WC _ _ _ 45 [] [(0, .pointer (some ⟨B.bk, 0, none⟩)), (1, .int .i64 (t : Nat)), (2, .int .i64 (r : Nat)), (3, .int .i64 (u : Nat))] _
    refine WC.seq fun K610 hK610 => ?_
    -- region 0
    refine WC.region ?_
    -- R0.0 8 := acquire.go:75 assign
    refine WL.v (by first | exact r_assign (v := .bool _) rfl | exact r_assign rfl) rfl rfl rfl ?_
    refine WL.fin hK610 (fun _ _ h => h) ?_
    refine WC.seq fun K611 hK611 => ?_
    refine WC.seq fun K612 hK612 => ?_
    -- region 1
    refine WC.region ?_
    -- R1.0 10 := acquire.go:76 move
    refine WL.v (by first | exact r_move (v := .int _ _) rfl | exact r_move rfl) rfl rfl rfl ?_
    -- R1.1 11 := acquire.go:76 move
    refine WL.v (by first | exact r_move (v := .pointer _) rfl | exact r_move rfl) rfl rfl rfl ?_
    -- R1.2 12 := acquire.go:76 nilCheck
    refine WL.v (by exact r_nilCheck rfl) rfl rfl rfl ?_
    -- R1.3 13 := acquire.go:76 fieldAddr
    refine WL.v (by exact r_field ty_fld120_1 rfl) rfl rfl rfl ?_
    -- R1.4 14 := acquire.go:76 load
    refine WL.v (by exact r_load1 (v := .pointer (some ⟨B.br, 0, none⟩)) ty_one107 rfl (V.cr st)) rfl rfl rfl ?_
    -- R1.5 15 := acquire.go:76 move
    refine WL.v (by first | exact r_move (v := .int _ _) rfl | exact r_move rfl) rfl rfl rfl ?_
    -- R1.6 16 := acquire.go:76 call
    refine WL.call (r_call ty_call161 rfl) rfl rfl rfl (free_ok hh hr V.r st) ?_
    rintro _ w ⟨rfl, st⟩
    -- R1.7 17 := acquire.go:76 binOp
    refine WL.v (by first | exact r_gtr rfl rfl (decide_eq_true (by omega)) | exact r_gtr rfl rfl (decide_eq_false (by omega)) | exact r_gtr rfl rfl rfl) rfl rfl rfl ?_
    refine WL.fin hK612 (fun _ _ h => h) ?_
    refine WC.condT rfl rfl ?_
    refine WC.seq fun K613 hK613 => ?_
    -- region 2
    refine WC.region ?_
    -- R2.0 8 := acquire.go:77 assign
    refine WL.v (by first | exact r_assign (v := .bool _) rfl | exact r_assign rfl) rfl rfl rfl ?_
    refine WL.fin hK613 (fun _ _ h => h) ?_
    refine WC.ret1 Tryz.results140 (fun _ _ h => h) rfl ?_
    exact ⟨_, rfl, by rw [e]; rfl, V.same st⟩
  have hroom := free_room (t := t) (held := s.held) (r := r) (u := u) ht (by omega)
  have htp := totP_le r
  by_cases h3 : s.mode = 3
  · have e : admissibleP s t r u = safeP s.claim (upd2 s.held t r (s.held t r + u)) := (if_neg h1).trans (if_pos h3)
    have hh2 : ∀ a b, upd2 s.held t r (s.held t r + u) a b ≤ 16 := fun a b => by unfold upd2; split; omega; exact hh a b
    refine enter [.pointer (some ⟨B.bk, 0, none⟩), .int .i64 (t : Nat), .int .i64 (r : Nat), .int .i64 (u : Nat)] Tryz.func140 rfl Tryz.ntmps140 rfl ?_
    show WC _ _ _ 45 [] [(0, .pointer (some ⟨B.bk, 0, none⟩)), (1, .int .i64 (t : Nat)), (2, .int .i64 (r : Nat)), (3, .int .i64 (u : Nat))] _
    refine WC.seq fun K614 hK614 => ?_
    -- region 0
    refine WC.region ?_
    -- R0.0 8 := acquire.go:75 assign
    refine WL.v (by first | exact r_assign (v := .bool _) rfl | exact r_assign rfl) rfl rfl rfl ?_
    refine WL.fin hK614 (fun _ _ h => h) ?_
    refine WC.seq fun K615 hK615 => ?_
    refine WC.seq fun K616 hK616 => ?_
    -- region 1
    refine WC.region ?_
    -- R1.0 10 := acquire.go:76 move
    refine WL.v (by first | exact r_move (v := .int _ _) rfl | exact r_move rfl) rfl rfl rfl ?_
    -- R1.1 11 := acquire.go:76 move
    refine WL.v (by first | exact r_move (v := .pointer _) rfl | exact r_move rfl) rfl rfl rfl ?_
    -- R1.2 12 := acquire.go:76 nilCheck
    refine WL.v (by exact r_nilCheck rfl) rfl rfl rfl ?_
    -- R1.3 13 := acquire.go:76 fieldAddr
    refine WL.v (by exact r_field ty_fld120_1 rfl) rfl rfl rfl ?_
    -- R1.4 14 := acquire.go:76 load
    refine WL.v (by exact r_load1 (v := .pointer (some ⟨B.br, 0, none⟩)) ty_one107 rfl (V.cr st)) rfl rfl rfl ?_
    -- R1.5 15 := acquire.go:76 move
    refine WL.v (by first | exact r_move (v := .int _ _) rfl | exact r_move rfl) rfl rfl rfl ?_
    -- R1.6 16 := acquire.go:76 call
    refine WL.call (r_call ty_call161 rfl) rfl rfl rfl (free_ok hh hr V.r st) ?_
    rintro _ w ⟨rfl, st⟩
    -- R1.7 17 := acquire.go:76 binOp
    refine WL.v (by first | exact r_gtr rfl rfl (decide_eq_true (by omega)) | exact r_gtr rfl rfl (decide_eq_false (by omega)) | exact r_gtr rfl rfl rfl) rfl rfl rfl ?_
    refine WL.fin hK616 (fun _ _ h => h) ?_
    refine WC.condF rfl rfl ?_
    refine WC.skipF hK615 (fun _ _ h => h) ?_
    refine WC.seq fun K617 hK617 => ?_
    refine WC.seq fun K618 hK618 => ?_
    -- region 3
    refine WC.region ?_
    -- R3.0 18 := acquire.go:79 move
    refine WL.v (by first | exact r_move (v := .pointer _) rfl | exact r_move rfl) rfl rfl rfl ?_
    -- R3.1 19 := acquire.go:79 nilCheck
    refine WL.v (by exact r_nilCheck rfl) rfl rfl rfl ?_
    -- R3.2 20 := acquire.go:79 fieldAddr
    refine WL.v (by exact r_field ty_fld120_2 rfl) rfl rfl rfl ?_
    -- R3.3 21 := acquire.go:79 load
    refine WL.v (by exact r_load1 (v := .pointer (some ⟨B.bp, 0, none⟩)) ty_one109 rfl (V.cp st)) rfl rfl rfl ?_
    -- R3.4 22 := acquire.go:79 nilCheck
    refine WL.v (by exact r_nilCheck rfl) rfl rfl rfl ?_
    -- R3.5 23 := acquire.go:79 fieldAddr
    refine WL.v (by exact r_field ty_fld131_0 rfl) rfl rfl rfl ?_
    -- R3.6 24 := acquire.go:79 load
    refine WL.v (by exact r_load1 (v := .int .i64 (s.mode : Nat)) ty_one40 rfl (V.cmode st)) rfl rfl rfl ?_
    -- R3.7 25 := acquire.go:79 binOp
    refine WL.v (by first | exact r_neq rfl rfl (decide_eq_true (by omega)) | exact r_neq rfl rfl (decide_eq_false (by omega)) | exact r_neq rfl rfl rfl) rfl rfl rfl ?_
    refine WL.fin hK618 (fun _ _ h => h) ?_
    refine WC.condF rfl rfl ?_
    refine WC.skipF hK617 (fun _ _ h => h) ?_
    refine WC.seq fun K619 hK619 => ?_
    -- region 5
    refine WC.region ?_
    -- R5.0 26 := acquire.go:82 move
    refine WL.v (by first | exact r_move (v := .pointer _) rfl | exact r_move rfl) rfl rfl rfl ?_
    -- R5.1 27 := acquire.go:82 nilCheck
    refine WL.v (by exact r_nilCheck rfl) rfl rfl rfl ?_
    -- R5.2 28 := acquire.go:82 fieldAddr
    refine WL.v (by exact r_field ty_fld120_1 rfl) rfl rfl rfl ?_
    -- R5.3 29 := acquire.go:82 load
    refine WL.v (by exact r_load1 (v := .pointer (some ⟨B.br, 0, none⟩)) ty_one107 rfl (V.cr st)) rfl rfl rfl ?_
    -- R5.4 30 := acquire.go:82 call
    refine WL.call (r_call ty_call90 rfl) rfl rfl rfl (matrix_ok V.r st) ?_
    rintro _ w ⟨rfl, st⟩
    -- R5.5 9 := acquire.go:82 alloc
    refine WL.allocN (m := 320) st ty_zeroN45 rfl rfl ?_
    intro b9 w st
    -- R5.6 None := acquire.go:82 store
    refine WL.storeN (v := hM s.held) st ty_agg45 rfl rfl (fun _ _ => rfl) (by decide) rfl rfl ?_
    intro w st
    have st : S0 w0 ((b9, Row 45 320 (hM s.held)) :: Y) w := stE (fun k hk => by rw [upds_eq, if_pos (by omega), Nat.sub_zero]) st
    refine WL.fin hK619 (fun _ _ h => h) ?_
    refine WC.seq fun K620 hK620 => ?_
    -- region 6 (draws)
    refine WC.tailS 9 st ty_mixed (by kernel_rfl) fun w st Kq hKq => ?_
    -- R6.0 31 := acquire.go:83 move
    refine SL.v (by first | exact r_move (v := .int _ _) rfl | exact r_move rfl) rfl rfl rfl ?_
    -- R6.1 32 := acquire.go:83 move
    refine SL.v (by first | exact r_move (v := .int _ _) rfl | exact r_move rfl) rfl rfl rfl ?_
    -- R6.2 33 := acquire.go:83 indexAddr
    refine SL.v (by exact r_indexA ty_ar45 rfl rfl rfl (by omega)) rfl rfl rfl ?_
    -- R6.3 34 := acquire.go:83 indexAddr
    refine SL.v (by exact r_indexA ty_ar44 rfl rfl rfl (by omega)) rfl rfl rfl ?_
    -- R6.4 35 := acquire.go:83 load
    refine SL.v (by exact r_load1 (v := .int .i64 (s.held t r : Nat)) ty_one3 rfl (c_hM List.mem_cons_self ht hr st)) rfl rfl rfl ?_
    -- R6.5 36 := acquire.go:83 move
    refine SL.v (by first | exact r_move (v := .int _ _) rfl | exact r_move rfl) rfl rfl rfl ?_
    -- R6.6 37 := acquire.go:83 binOp
    refine SL.v (by exact r_add (r := ((s.held t r + u : Nat) : Int)) rfl rfl ((wi64 (by omega) (by omega)).trans (by omega))) rfl rfl rfl ?_
    -- R6.7 38 := acquire.go:83 indexAddr
    refine SL.v (by exact r_indexA ty_ar45 rfl rfl rfl (by omega)) rfl rfl rfl ?_
    -- R6.8 39 := acquire.go:83 indexAddr
    refine SL.v (by exact r_indexA ty_ar44 rfl rfl rfl (by omega)) rfl rfl rfl ?_
    refine SL.fin hKq ?_
    -- R6.9 None := acquire.go:83 store
    refine WL.store (v := .int .i64 ((s.held t r + u : Nat) : Int)) st ty_one3 rfl rfl rfl (by omega) rfl rfl ?_
    intro w st
    have st := stE (hM_set (x := s.held t r + u) ht hr) st
    refine WL.fin hK620 (fun _ _ h => h) ?_
    refine WC.seq fun K621 hK621 => ?_
    -- region 7
    refine WC.region ?_
    -- R7.0 40 := acquire.go:84 move
    refine WL.v (by first | exact r_move (v := .pointer _) rfl | exact r_move rfl) rfl rfl rfl ?_
    -- R7.1 41 := acquire.go:84 nilCheck
    refine WL.v (by exact r_nilCheck rfl) rfl rfl rfl ?_
    -- R7.2 42 := acquire.go:84 fieldAddr
    refine WL.v (by exact r_field ty_fld120_2 rfl) rfl rfl rfl ?_
    -- R7.3 43 := acquire.go:84 load
    refine WL.v (by exact r_load1 (v := .pointer (some ⟨B.bp, 0, none⟩)) ty_one109 rfl (V.cp st.drop)) rfl rfl rfl ?_
    -- R7.4 44 := acquire.go:84 call
    refine WL.call (r_call ty_call162 rfl) rfl rfl rfl (safe_ok hh2 hc (List.mem_cons_of_mem _ V.p) List.mem_cons_self st) ?_
    rintro _ w ⟨rfl, st⟩
    -- R7.5 8 := acquire.go:84 assign
    refine WL.v (by first | exact r_assign (v := .bool _) rfl | exact r_assign rfl) rfl rfl rfl ?_
    refine WL.fin hK621 (fun _ _ h => h) ?_
    refine WC.ret1 Tryz.results140 (fun _ _ h => h) rfl ?_
    exact ⟨_, rfl, by rw [e]; rfl, V.same st.drop⟩
  · have e : admissibleP s t r u = true := (if_neg h1).trans (if_neg h3)
    refine enter [.pointer (some ⟨B.bk, 0, none⟩), .int .i64 (t : Nat), .int .i64 (r : Nat), .int .i64 (u : Nat)] Tryz.func140 rfl Tryz.ntmps140 rfl ?_
    show WC _ _ _ 45 [] [(0, .pointer (some ⟨B.bk, 0, none⟩)), (1, .int .i64 (t : Nat)), (2, .int .i64 (r : Nat)), (3, .int .i64 (u : Nat))] _
    refine WC.seq fun K622 hK622 => ?_
    -- region 0
    refine WC.region ?_
    -- R0.0 8 := acquire.go:75 assign
    refine WL.v (by first | exact r_assign (v := .bool _) rfl | exact r_assign rfl) rfl rfl rfl ?_
    refine WL.fin hK622 (fun _ _ h => h) ?_
    refine WC.seq fun K623 hK623 => ?_
    refine WC.seq fun K624 hK624 => ?_
    -- region 1
    refine WC.region ?_
    -- R1.0 10 := acquire.go:76 move
    refine WL.v (by first | exact r_move (v := .int _ _) rfl | exact r_move rfl) rfl rfl rfl ?_
    -- R1.1 11 := acquire.go:76 move
    refine WL.v (by first | exact r_move (v := .pointer _) rfl | exact r_move rfl) rfl rfl rfl ?_
    -- R1.2 12 := acquire.go:76 nilCheck
    refine WL.v (by exact r_nilCheck rfl) rfl rfl rfl ?_
    -- R1.3 13 := acquire.go:76 fieldAddr
    refine WL.v (by exact r_field ty_fld120_1 rfl) rfl rfl rfl ?_
    -- R1.4 14 := acquire.go:76 load
    refine WL.v (by exact r_load1 (v := .pointer (some ⟨B.br, 0, none⟩)) ty_one107 rfl (V.cr st)) rfl rfl rfl ?_
    -- R1.5 15 := acquire.go:76 move
    refine WL.v (by first | exact r_move (v := .int _ _) rfl | exact r_move rfl) rfl rfl rfl ?_
    -- R1.6 16 := acquire.go:76 call
    refine WL.call (r_call ty_call161 rfl) rfl rfl rfl (free_ok hh hr V.r st) ?_
    rintro _ w ⟨rfl, st⟩
    -- R1.7 17 := acquire.go:76 binOp
    refine WL.v (by first | exact r_gtr rfl rfl (decide_eq_true (by omega)) | exact r_gtr rfl rfl (decide_eq_false (by omega)) | exact r_gtr rfl rfl rfl) rfl rfl rfl ?_
    refine WL.fin hK624 (fun _ _ h => h) ?_
    refine WC.condF rfl rfl ?_
    refine WC.skipF hK623 (fun _ _ h => h) ?_
    refine WC.seq fun K625 hK625 => ?_
    refine WC.seq fun K626 hK626 => ?_
    -- region 3
    refine WC.region ?_
    -- R3.0 18 := acquire.go:79 move
    refine WL.v (by first | exact r_move (v := .pointer _) rfl | exact r_move rfl) rfl rfl rfl ?_
    -- R3.1 19 := acquire.go:79 nilCheck
    refine WL.v (by exact r_nilCheck rfl) rfl rfl rfl ?_
    -- R3.2 20 := acquire.go:79 fieldAddr
    refine WL.v (by exact r_field ty_fld120_2 rfl) rfl rfl rfl ?_
    -- R3.3 21 := acquire.go:79 load
    refine WL.v (by exact r_load1 (v := .pointer (some ⟨B.bp, 0, none⟩)) ty_one109 rfl (V.cp st)) rfl rfl rfl ?_
    -- R3.4 22 := acquire.go:79 nilCheck
    refine WL.v (by exact r_nilCheck rfl) rfl rfl rfl ?_
    -- R3.5 23 := acquire.go:79 fieldAddr
    refine WL.v (by exact r_field ty_fld131_0 rfl) rfl rfl rfl ?_
    -- R3.6 24 := acquire.go:79 load
    refine WL.v (by exact r_load1 (v := .int .i64 (s.mode : Nat)) ty_one40 rfl (V.cmode st)) rfl rfl rfl ?_
    -- R3.7 25 := acquire.go:79 binOp
    refine WL.v (by first | exact r_neq rfl rfl (decide_eq_true (by omega)) | exact r_neq rfl rfl (decide_eq_false (by omega)) | exact r_neq rfl rfl rfl) rfl rfl rfl ?_
    refine WL.fin hK626 (fun _ _ h => h) ?_
    refine WC.condT rfl rfl ?_
    refine WC.seq fun K627 hK627 => ?_
    -- region 4
    refine WC.region ?_
    -- R4.0 8 := acquire.go:80 assign
    refine WL.v (by first | exact r_assign (v := .bool _) rfl | exact r_assign rfl) rfl rfl rfl ?_
    refine WL.fin hK627 (fun _ _ h => h) ?_
    refine WC.ret1 Tryz.results140 (fun _ _ h => h) rfl ?_
    exact ⟨_, rfl, by rw [e]; rfl, V.same st⟩

def atOnceP (s : KS) (t r u : Nat) : Bool := (s.queue r).isEmpty && admissibleP s t r u
set_option maxHeartbeats 4000000 in
theorem atOnce_ok {u : Nat} (ht : t < 16) (hr : r < 20) (hu : u ≤ 16) (hh : ∀ t r, s.held t r ≤ 16) (hc : ∀ t r, s.claim t r ≤ 16) (st : KH w0 B s l w) :
    Calls Tryz.prog 132 #[.pointer (some ⟨B.bk, 0, none⟩), .int .i64 (t : Nat), .int .i64 (r : Nat), .int .i64 (u : Nat)] w (Ret fun v w' => v = .bool (atOnceP s t r u) ∧ KH w0 B s l w') := by
  obtain ⟨Y, qv, XQ, tv, ov, V, st⟩ := st.view
  rcases Bool.eq_false_or_eq_true (s.queue r).isEmpty with hq | hq
  · skip
    refine enter [.pointer (some ⟨B.bk, 0, none⟩), .int .i64 (t : Nat), .int .i64 (r : Nat), .int .i64 (u : Nat)] Tryz.func132 rfl Tryz.ntmps132 rfl ?_
    show WC _ _ _ 29 [] [(0, .pointer (some ⟨B.bk, 0, none⟩)), (1, .int .i64 (t : Nat)), (2, .int .i64 (r : Nat)), (3, .int .i64 (u : Nat))] _
    refine WC.seq fun K628 hK628 => ?_
    -- region 0
    refine WC.region ?_
    -- R0.0 8 := acquire.go:89 assign
    refine WL.v (by first | exact r_assign (v := .bool _) rfl | exact r_assign rfl) rfl rfl rfl ?_
    refine WL.fin hK628 (fun _ _ h => h) ?_
    refine WC.seq fun K629 hK629 => ?_
    -- region 1
    refine WC.region ?_
    -- R1.0 12 := acquire.go:90 move
    refine WL.v (by first | exact r_move (v := .pointer _) rfl | exact r_move rfl) rfl rfl rfl ?_
    -- R1.1 13 := acquire.go:90 nilCheck
    refine WL.v (by exact r_nilCheck rfl) rfl rfl rfl ?_
    -- R1.2 14 := acquire.go:90 fieldAddr
    refine WL.v (by exact r_field ty_fld120_1 rfl) rfl rfl rfl ?_
    -- R1.3 15 := acquire.go:90 load
    refine WL.v (by exact r_load1 (v := .pointer (some ⟨B.br, 0, none⟩)) ty_one107 rfl (V.cr st)) rfl rfl rfl ?_
    -- R1.4 16 := acquire.go:90 move
    refine WL.v (by first | exact r_move (v := .int _ _) rfl | exact r_move rfl) rfl rfl rfl ?_
    -- R1.5 17 := acquire.go:90 call
    refine WL.call (r_call ty_call139 rfl) rfl rfl rfl (head_ok hr V.r (V.q r hr) (V.qs r hr) st) ?_
    rintro _ w ⟨rfl, st⟩
    -- R1.6 11 := acquire.go:90 move
    refine WL.v (by first | exact r_move (v := .tuple _) rfl | exact r_move rfl) rfl rfl rfl ?_
    -- R1.7 18 := acquire.go:90 extract
    refine WL.v (by first | exact r_extract (v := .agg _) rfl rfl | exact r_extract rfl rfl) rfl rfl rfl ?_
    -- R1.8 19 := acquire.go:90 extract
    refine WL.v (by exact r_extract (v := .bool false) rfl (by rw [hq]; rfl)) rfl rfl rfl ?_
    -- R1.9 9 := acquire.go:90 alloc
    refine WL.alloc (m := 2) st ty_zero61 rfl rfl rfl ?_
    intro b9 w st
    -- R1.10 None := acquire.go:90 store
    first | refine WL.storeW (vs := [_, _]) st ty_agg61 rfl rfl rfl rfl rfl rfl ?_ | refine WL.storeL (vs := [_, _]) st ty_agg61 rfl rfl rfl rfl (by first | decide | omega) rfl rfl ?_ | refine WL.storeW (vs := [_, _]) st.front1 ty_agg61 rfl rfl rfl rfl rfl rfl ?_ | refine WL.storeL (vs := [_, _]) st.front1 ty_agg61 rfl rfl rfl rfl (by first | decide | omega) rfl rfl ?_ | refine WL.storeW (vs := [_, _]) st.front2 ty_agg61 rfl rfl rfl rfl rfl rfl ?_ | refine WL.storeL (vs := [_, _]) st.front2 ty_agg61 rfl rfl rfl rfl (by first | decide | omega) rfl rfl ?_ | refine WL.storeW (vs := [_, _]) st.front3 ty_agg61 rfl rfl rfl rfl rfl rfl ?_ | refine WL.storeL (vs := [_, _]) st.front3 ty_agg61 rfl rfl rfl rfl (by first | decide | omega) rfl rfl ?_ | refine WL.storeW (vs := [_, _]) st.front4 ty_agg61 rfl rfl rfl rfl rfl rfl ?_ | refine WL.storeL (vs := [_, _]) st.front4 ty_agg61 rfl rfl rfl rfl (by first | decide | omega) rfl rfl ?_ | refine WL.storeW (vs := [_, _]) st.front5 ty_agg61 rfl rfl rfl rfl rfl rfl ?_ | refine WL.storeL (vs := [_, _]) st.front5 ty_agg61 rfl rfl rfl rfl (by first | decide | omega) rfl rfl ?_ | refine WL.storeW (vs := [_, _]) st.front6 ty_agg61 rfl rfl rfl rfl rfl rfl ?_ | refine WL.storeL (vs := [_, _]) st.front6 ty_agg61 rfl rfl rfl rfl (by first | decide | omega) rfl rfl ?_ | refine WL.storeW (vs := [_, _]) st.front7 ty_agg61 rfl rfl rfl rfl rfl rfl ?_ | refine WL.storeL (vs := [_, _]) st.front7 ty_agg61 rfl rfl rfl rfl (by first | decide | omega) rfl rfl ?_ | refine WL.storeW (vs := [_, _]) st.front8 ty_agg61 rfl rfl rfl rfl rfl rfl ?_ | refine WL.storeL (vs := [_, _]) st.front8 ty_agg61 rfl rfl rfl rfl (by first | decide | omega) rfl rfl ?_
    intro w st
    -- R1.11 10 := acquire.go:90 assign
    refine WL.v (by first | exact r_assign (v := .bool _) rfl | exact r_assign rfl) rfl rfl rfl ?_
    refine WL.fin hK629 (fun _ _ h => h) ?_
    refine WC.seq fun K630 hK630 => ?_
    -- region 2
    refine WC.region ?_
    -- R2.0 20 := acquire.go:91 move
    refine WL.v (by first | exact r_move (v := .bool _) rfl | exact r_move rfl) rfl rfl rfl ?_
    -- R2.1 21 := acquire.go:91 unOp
    refine WL.v (by first | exact r_notT rfl | exact r_notF rfl | exact r_not rfl) rfl rfl rfl ?_
    -- R2.2 22 := acquire.go:91 move
    refine WL.v (by first | exact r_move (v := .bool _) rfl | exact r_move rfl) rfl rfl rfl ?_
    -- R2.3 23 := acquire.go:91 move
    refine WL.v (by first | exact r_move (v := .pointer _) rfl | exact r_move rfl) rfl rfl rfl ?_
    -- R2.4 24 := acquire.go:91 move
    refine WL.v (by first | exact r_move (v := .int _ _) rfl | exact r_move rfl) rfl rfl rfl ?_
    -- R2.5 25 := acquire.go:91 move
    refine WL.v (by first | exact r_move (v := .int _ _) rfl | exact r_move rfl) rfl rfl rfl ?_
    -- R2.6 26 := acquire.go:91 move
    refine WL.v (by first | exact r_move (v := .int _ _) rfl | exact r_move rfl) rfl rfl rfl ?_
    -- R2.7 27 := acquire.go:91 call
    refine WL.call (r_call ty_call140 rfl) rfl rfl rfl (admissible_ok ht hr hu hh hc (V.same st.drop)) ?_
    rintro _ w ⟨rfl, st⟩
    -- R2.8 28 := acquire.go:91 pick
    refine WL.v (by first | exact r_pickT (v := .bool _) rfl rfl | exact r_pickF (v := .bool _) rfl rfl) rfl rfl rfl ?_
    -- R2.9 8 := acquire.go:91 assign
    refine WL.v (by first | exact r_assign (v := .bool _) rfl | exact r_assign rfl) rfl rfl rfl ?_
    refine WL.fin hK630 (fun _ _ h => h) ?_
    refine WC.ret1 Tryz.results132 (fun _ _ h => h) rfl ?_
    exact ⟨_, rfl, by unfold atOnceP; rw [hq]; rfl, st⟩
  · skip
    refine enter [.pointer (some ⟨B.bk, 0, none⟩), .int .i64 (t : Nat), .int .i64 (r : Nat), .int .i64 (u : Nat)] Tryz.func132 rfl Tryz.ntmps132 rfl ?_
    show WC _ _ _ 29 [] [(0, .pointer (some ⟨B.bk, 0, none⟩)), (1, .int .i64 (t : Nat)), (2, .int .i64 (r : Nat)), (3, .int .i64 (u : Nat))] _
    refine WC.seq fun K631 hK631 => ?_
    -- region 0
    refine WC.region ?_
    -- R0.0 8 := acquire.go:89 assign
    refine WL.v (by first | exact r_assign (v := .bool _) rfl | exact r_assign rfl) rfl rfl rfl ?_
    refine WL.fin hK631 (fun _ _ h => h) ?_
    refine WC.seq fun K632 hK632 => ?_
    -- region 1
    refine WC.region ?_
    -- R1.0 12 := acquire.go:90 move
    refine WL.v (by first | exact r_move (v := .pointer _) rfl | exact r_move rfl) rfl rfl rfl ?_
    -- R1.1 13 := acquire.go:90 nilCheck
    refine WL.v (by exact r_nilCheck rfl) rfl rfl rfl ?_
    -- R1.2 14 := acquire.go:90 fieldAddr
    refine WL.v (by exact r_field ty_fld120_1 rfl) rfl rfl rfl ?_
    -- R1.3 15 := acquire.go:90 load
    refine WL.v (by exact r_load1 (v := .pointer (some ⟨B.br, 0, none⟩)) ty_one107 rfl (V.cr st)) rfl rfl rfl ?_
    -- R1.4 16 := acquire.go:90 move
    refine WL.v (by first | exact r_move (v := .int _ _) rfl | exact r_move rfl) rfl rfl rfl ?_
    -- R1.5 17 := acquire.go:90 call
    refine WL.call (r_call ty_call139 rfl) rfl rfl rfl (head_ok hr V.r (V.q r hr) (V.qs r hr) st) ?_
    rintro _ w ⟨rfl, st⟩
    -- R1.6 11 := acquire.go:90 move
    refine WL.v (by first | exact r_move (v := .tuple _) rfl | exact r_move rfl) rfl rfl rfl ?_
    -- R1.7 18 := acquire.go:90 extract
    refine WL.v (by first | exact r_extract (v := .agg _) rfl rfl | exact r_extract rfl rfl) rfl rfl rfl ?_
    -- R1.8 19 := acquire.go:90 extract
    refine WL.v (by exact r_extract (v := .bool true) rfl (by rw [hq]; rfl)) rfl rfl rfl ?_
    -- R1.9 9 := acquire.go:90 alloc
    refine WL.alloc (m := 2) st ty_zero61 rfl rfl rfl ?_
    intro b9 w st
    -- R1.10 None := acquire.go:90 store
    first | refine WL.storeW (vs := [_, _]) st ty_agg61 rfl rfl rfl rfl rfl rfl ?_ | refine WL.storeL (vs := [_, _]) st ty_agg61 rfl rfl rfl rfl (by first | decide | omega) rfl rfl ?_ | refine WL.storeW (vs := [_, _]) st.front1 ty_agg61 rfl rfl rfl rfl rfl rfl ?_ | refine WL.storeL (vs := [_, _]) st.front1 ty_agg61 rfl rfl rfl rfl (by first | decide | omega) rfl rfl ?_ | refine WL.storeW (vs := [_, _]) st.front2 ty_agg61 rfl rfl rfl rfl rfl rfl ?_ | refine WL.storeL (vs := [_, _]) st.front2 ty_agg61 rfl rfl rfl rfl (by first | decide | omega) rfl rfl ?_ | refine WL.storeW (vs := [_, _]) st.front3 ty_agg61 rfl rfl rfl rfl rfl rfl ?_ | refine WL.storeL (vs := [_, _]) st.front3 ty_agg61 rfl rfl rfl rfl (by first | decide | omega) rfl rfl ?_ | refine WL.storeW (vs := [_, _]) st.front4 ty_agg61 rfl rfl rfl rfl rfl rfl ?_ | refine WL.storeL (vs := [_, _]) st.front4 ty_agg61 rfl rfl rfl rfl (by first | decide | omega) rfl rfl ?_ | refine WL.storeW (vs := [_, _]) st.front5 ty_agg61 rfl rfl rfl rfl rfl rfl ?_ | refine WL.storeL (vs := [_, _]) st.front5 ty_agg61 rfl rfl rfl rfl (by first | decide | omega) rfl rfl ?_ | refine WL.storeW (vs := [_, _]) st.front6 ty_agg61 rfl rfl rfl rfl rfl rfl ?_ | refine WL.storeL (vs := [_, _]) st.front6 ty_agg61 rfl rfl rfl rfl (by first | decide | omega) rfl rfl ?_ | refine WL.storeW (vs := [_, _]) st.front7 ty_agg61 rfl rfl rfl rfl rfl rfl ?_ | refine WL.storeL (vs := [_, _]) st.front7 ty_agg61 rfl rfl rfl rfl (by first | decide | omega) rfl rfl ?_ | refine WL.storeW (vs := [_, _]) st.front8 ty_agg61 rfl rfl rfl rfl rfl rfl ?_ | refine WL.storeL (vs := [_, _]) st.front8 ty_agg61 rfl rfl rfl rfl (by first | decide | omega) rfl rfl ?_
    intro w st
    -- R1.11 10 := acquire.go:90 assign
    refine WL.v (by first | exact r_assign (v := .bool _) rfl | exact r_assign rfl) rfl rfl rfl ?_
    refine WL.fin hK632 (fun _ _ h => h) ?_
    refine WC.seq fun K633 hK633 => ?_
    -- region 2
    refine WC.region ?_
    -- R2.0 20 := acquire.go:91 move
    refine WL.v (by first | exact r_move (v := .bool _) rfl | exact r_move rfl) rfl rfl rfl ?_
    -- R2.1 21 := acquire.go:91 unOp
    refine WL.v (by first | exact r_notT rfl | exact r_notF rfl | exact r_not rfl) rfl rfl rfl ?_
    -- R2.2 22 := acquire.go:91 move
    refine WL.v (by first | exact r_move (v := .bool _) rfl | exact r_move rfl) rfl rfl rfl ?_
    -- R2.3 23 := acquire.go:91 move
    refine WL.no rfl rfl ?_
    -- R2.4 24 := acquire.go:91 move
    refine WL.no rfl rfl ?_
    -- R2.5 25 := acquire.go:91 move
    refine WL.no rfl rfl ?_
    -- R2.6 26 := acquire.go:91 move
    refine WL.no rfl rfl ?_
    -- R2.7 27 := acquire.go:91 call
    refine WL.no rfl rfl ?_
    -- R2.8 28 := acquire.go:91 pick
    refine WL.v (by first | exact r_pickT (v := .bool _) rfl rfl | exact r_pickF (v := .bool _) rfl rfl) rfl rfl rfl ?_
    -- R2.9 8 := acquire.go:91 assign
    refine WL.v (by first | exact r_assign (v := .bool _) rfl | exact r_assign rfl) rfl rfl rfl ?_
    refine WL.fin hK633 (fun _ _ h => h) ?_
    refine WC.ret1 Tryz.results132 (fun _ _ h => h) rfl ?_
    exact ⟨_, rfl, by unfold atOnceP; rw [hq]; rfl, V.same st.drop⟩
end Go.Proofs.Qxb6500834aGreatDoor

