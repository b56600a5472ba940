import Derived.Test.Qxb6500834aGreatDoorK22
set_option linter.unusedVariables false
set_option linter.unusedSimpArgs false
set_option maxRecDepth 20000
namespace Go.Proofs.Qxb6500834aGreatDoor
open Go.RowKit Go.E1 Go.Kern
variable {w0 : World} {L L' l I J K K' X Y : List HI} {w : World} {s : KS} {B : KA} {t r N : Nat}

theorem wakeR_nil {k : Nat} (h : s.queue r = []) : wakeR k s r = (s, false) := by
  match k with
  | 0 => rfl
  | k + 1 => unfold wakeR; rw [h]
theorem wakeR_no {k : Nat} {q : Nat × Nat} {Q : List (Nat × Nat)} (h : s.queue r = q :: Q) (ha : admissibleP s q.1 r q.2 = false) : wakeR k s r = (s, false) := by
  match k with
  | 0 => rfl
  | k + 1 => unfold wakeR; rw [h]; simp only [ha]; rfl
theorem wakeR_yes {k : Nat} {q : Nat × Nat} {Q : List (Nat × Nat)} (h : s.queue r = q :: Q) (ha : admissibleP s q.1 r q.2 = true) : wakeR (k + 1) s r = ((wakeR k (answerP (grantS s r q Q) q.1 0) r).1, true) := by
  rw [wakeR.eq_2, h]; simp only [ha]; rfl
abbrev lI (b : Nat) (q : Nat × Nat) : HI := (b, Row 61 2 (nth [.int .i64 (q.1 : Nat), .int .i64 (q.2 : Nat)]))
set_option maxHeartbeats 1000000 in
theorem wake_ok (hB : KB N s) (hN : N ≤ 1000000) (st : KH w0 B s l w) :
    Calls Tryz.prog 107 #[.pointer (some ⟨B.bk, 0, none⟩)] w (Ret fun v w' => v = .tuple #[] ∧ KH w0 B (wakeP s) l w') := by
  refine enter [.pointer (some ⟨B.bk, 0, none⟩)] Tryz.func107 rfl Tryz.ntmps107 rfl ?_
  show WC _ _ _ 42 [] [(0, .pointer (some ⟨B.bk, 0, none⟩))] _
  refine WC.seq fun K634 hK634 => ?_
  -- region 0
  refine WC.region ?_
  -- R0.0 2 := acquire.go:109 assign
  refine WL.v (by first | exact r_assign (v := .bool _) rfl | exact r_assign rfl) rfl rfl rfl ?_
  refine WL.fin hK634 (fun _ _ h => h) ?_
  refine WC.block ?_
  refine WC.loop (ι := KS × Bool × Nat) (fun y => [(0, .pointer (some ⟨B.bk, 0, none⟩)), (2, .bool y.2.1)])
    (fun y w' => KB N y.1 ∧ (if y.2.1 then qsum y.1.queue < y.2.2 ∧ wakeO y.2.2 y.1 = wakeP s else y.1 = wakeP s) ∧ KH w0 B y.1 l w') (fun y => if y.2.1 then y.2.2 + 1 else 0) (s, true, qsum s.queue + 1) ⟨hB, ⟨Nat.lt_succ_self _, rfl⟩, st⟩ ?_ ?_
  · skip
    repeat (first | exact sub_nil _ | refine sub_cons rfl rfl ?_)
  clear hB st
  rintro ⟨s', again, k⟩ w ⟨hB, hk, st⟩ K1 hK1
  dsimp only at hB hk st ⊢
  cases again
  · obtain rfl : s' = wakeP s := hk
    refine WC.seq fun K635 hK635 => ?_
    refine WC.seq fun K636 hK636 => ?_
    -- region 1
    refine WC.region ?_
    -- R1.0 6 := acquire.go:109 move
    refine WL.v (by first | exact r_move (v := .bool _) rfl | exact r_move rfl) rfl rfl rfl ?_
    refine WL.fin hK636 (fun _ _ h => h) ?_
    refine WC.condF rfl rfl ?_
    refine WC.exit0 Tryz.results107 (fun _ _ h => h) ?_
    exact ⟨_, rfl, rfl, st⟩
  obtain ⟨hk, hwk⟩ : qsum s'.queue < k ∧ wakeO k s' = wakeP s := hk
  obtain ⟨k, rfl⟩ : ∃ m, k = m + 1 := ⟨k - 1, by omega⟩
  obtain ⟨σ, hσ⟩ : ∃ σ, σ = passN s' := ⟨_, rfl⟩
  have hwk : (if (σ 20).2 then wakeO k (σ 20).1 else (σ 20).1) = wakeP s := by rw [hσ]; exact hwk
  have hσ0 : σ 0 = (s', false) := by rw [hσ]; rfl
  have hσs : ∀ i, σ (i + 1) = ((wakeQ (σ i).1 i).1, (σ i).2 || (wakeQ (σ i).1 i).2) := fun i => by rw [hσ]; rfl
  have hkb : ∀ i, i ≤ 20 → KB N (σ i).1 ∧ qsum (σ i).1.queue + (if (σ i).2 then 1 else 0) ≤ qsum s'.queue := fun i hi => by rw [hσ]; exact passN_kb hB i hi
  clear hσ
  refine WC.seq fun K637 hK637 => ?_
  refine WC.seq fun K638 hK638 => ?_
  -- region 1
  refine WC.region ?_
  -- R1.0 6 := acquire.go:109 move
  refine WL.v (by first | exact r_move (v := .bool _) rfl | exact r_move rfl) rfl rfl rfl ?_
  refine WL.fin hK638 (fun _ _ h => h) ?_
  refine WC.condT rfl rfl ?_
  refine WC.skipF hK637 (fun _ _ h => h) ?_
  refine WC.block ?_
  refine WC.seq fun K639 hK639 => ?_
  -- region 2
  refine WC.region ?_
  -- R2.0 2 := acquire.go:110 assign
  refine WL.v (by first | exact r_assign (v := .bool _) rfl | exact r_assign rfl) rfl rfl rfl ?_
  refine WL.fin hK639 (fun _ _ h => h) ?_
  refine WC.seq fun K640 hK640 => ?_
  -- region 3
  refine WC.region ?_
  -- R3.0 3 := acquire.go:111 assign
  refine WL.v (by first | exact r_assign (v := .int _ _) rfl | exact r_assign rfl) rfl rfl rfl ?_
  refine WL.fin hK640 (fun _ _ h => h) ?_
  refine WC.block ?_
  refine WC.loop (ι := Nat) (fun i => [(0, .pointer (some ⟨B.bk, 0, none⟩)), (2, .bool (σ i).2), (3, .int .i64 (i : Nat))])
    (fun i w' => i ≤ 20 ∧ KH w0 B (σ i).1 l w') (fun i => 20 - i) 0 ⟨Nat.zero_le _, by rw [hσ0]; exact st⟩ (by rw [hσ0]; repeat (first | exact sub_nil _ | refine sub_cons rfl rfl ?_)) ?_
  clear st
  rintro i w ⟨hi, st⟩ K2 hK2
  obtain ⟨hBi, hqi⟩ := hkb i hi
  by_cases h20 : i = 20
  · subst h20
    obtain ⟨P, hP⟩ : ∃ P, P = σ 20 := ⟨_, rfl⟩
    rw [← hP] at hwk hBi hqi st ⊢
    refine WC.seq fun K641 hK641 => ?_
    refine WC.seq fun K642 hK642 => ?_
    -- region 4
    refine WC.region ?_
    -- R4.0 7 := acquire.go:111 move
    refine WL.v (by first | exact r_move (v := .int _ _) rfl | exact r_move rfl) rfl rfl rfl ?_
    -- R4.1 8 := acquire.go:111 binOp
    refine WL.v (by first | exact r_lss rfl rfl (decide_eq_true (by omega)) | exact r_lss rfl rfl (decide_eq_false (by omega)) | exact r_lss rfl rfl rfl) rfl rfl rfl ?_
    refine WL.fin hK642 (fun _ _ h => h) ?_
    refine WC.condF rfl rfl ?_
    have hn : KB N P.1 ∧ (if P.2 then qsum P.1.queue < k ∧ wakeO k P.1 = wakeP s else P.1 = wakeP s) ∧ KH w0 B P.1 l w := by
      refine ⟨hBi, ?_, st⟩
      revert hwk hqi
      cases P.2
      · intro _ h; exact h
      · intro h2 h1; exact ⟨by have : qsum P.1.queue + 1 ≤ qsum s'.queue := h2; omega, h1⟩
    refine WC.exitN hK1 (fun _ _ h => h) (P.1, P.2, k) hn (by show (if P.2 then k + 1 else 0) < k + 1 + 1; split <;> omega) (by repeat (first | exact sub_nil _ | refine sub_cons rfl rfl ?_))
  have hi' : i < 20 := by omega
  obtain ⟨s1, hs1⟩ : ∃ s1, s1 = (σ i).1 := ⟨_, rfl⟩
  obtain ⟨a1, ha1⟩ : ∃ a1, a1 = (σ i).2 := ⟨_, rfl⟩
  have hnx : σ (i + 1) = ((wakeQ s1 i).1, a1 || (wakeQ s1 i).2) := by rw [hs1, ha1]; exact hσs i
  rw [← hs1] at st hBi
  rw [← ha1]
  refine WC.seq fun K643 hK643 => ?_
  refine WC.seq fun K644 hK644 => ?_
  -- region 4
  refine WC.region ?_
  -- R4.0 7 := acquire.go:111 move
  refine WL.v (by first | exact r_move (v := .int _ _) rfl | exact r_move rfl) rfl rfl rfl ?_
  -- R4.1 8 := acquire.go:111 binOp
  refine WL.v (by first | exact r_lss rfl rfl (decide_eq_true (by omega)) | exact r_lss rfl rfl (decide_eq_false (by omega)) | exact r_lss rfl rfl rfl) rfl rfl rfl ?_
  refine WL.fin hK644 (fun _ _ h => h) ?_
  refine WC.condT rfl rfl ?_
  refine WC.skipF hK643 (fun _ _ h => h) ?_
  refine WC.seq fun K645 hK645 => ?_
  refine WC.block ?_
  refine WC.block ?_
  refine WC.loop (ι := KS × Bool × Nat) (fun y => [(0, .pointer (some ⟨B.bk, 0, none⟩)), (2, .bool y.2.1), (3, .int .i64 (i : Nat))])
    (fun y w' => KB N y.1 ∧ (y.1.queue i).length = y.2.2 ∧ (wakeR y.2.2 y.1 i).1 = (wakeQ s1 i).1 ∧ (y.2.1 || (wakeR y.2.2 y.1 i).2) = (a1 || (wakeQ s1 i).2) ∧ KH w0 B y.1 l w') (fun y => y.2.2) (s1, a1, (s1.queue i).length) ⟨hBi, rfl, rfl, rfl, st⟩ ?_ ?_
  · skip
    repeat (first | exact sub_nil _ | refine sub_cons rfl rfl ?_)
  clear st
  rintro ⟨s2, a2, m⟩ w ⟨hB2, hm, hw1, hw2, st⟩ K3 hK3
  dsimp only at hB2 hm hw1 hw2 st ⊢
  obtain ⟨Y, qv, XQ, tv, ov, V, st⟩ := st.view
  rcases hQe : s2.queue i with _ | ⟨q, Q⟩
  · have hQ : s2.queue i = [] := hQe
    rw [wakeR_nil hQ] at hw1 hw2
    have hz : σ (i + 1) = (s2, a2) := by rw [hnx, ← hw1, ← hw2, Bool.or_false]
    refine WC.block ?_
    refine WC.seq fun K646 hK646 => ?_
    -- region 6
    refine WC.region ?_
    -- R6.0 12 := acquire.go:113 move
    refine WL.v (by first | exact r_move (v := .pointer _) rfl | exact r_move rfl) rfl rfl rfl ?_
    -- R6.1 13 := acquire.go:113 nilCheck
    refine WL.v (by exact r_nilCheck rfl) rfl rfl rfl ?_
    -- R6.2 14 := acquire.go:113 fieldAddr
    refine WL.v (by exact r_field ty_fld120_1 rfl) rfl rfl rfl ?_
    -- R6.3 15 := acquire.go:113 load
    refine WL.v (by exact r_load1 (v := .pointer (some ⟨B.br, 0, none⟩)) ty_one107 rfl (V.cr st)) rfl rfl rfl ?_
    -- R6.4 16 := acquire.go:113 move
    refine WL.v (by first | exact r_move (v := .int _ _) rfl | exact r_move rfl) rfl rfl rfl ?_
    -- R6.5 17 := acquire.go:113 call
    refine WL.call (r_call ty_call139 rfl) rfl rfl rfl (head_ok hi' V.r (V.q i hi') (V.qs i hi') st) ?_
    rintro _ w ⟨he, st⟩
    rw [hQ] at he
    subst he
    -- R6.6 11 := acquire.go:113 move
    refine WL.v (by first | exact r_move (v := .tuple _) rfl | exact r_move rfl) rfl rfl rfl ?_
    -- R6.7 18 := acquire.go:113 extract
    refine WL.v (by first | exact r_extract (v := .agg _) rfl rfl | exact r_extract rfl rfl) rfl rfl rfl ?_
    -- R6.8 19 := acquire.go:113 extract
    refine WL.v (by first | exact r_extract (v := .bool _) rfl rfl | exact r_extract rfl rfl) rfl rfl rfl ?_
    -- R6.9 4 := acquire.go:113 alloc
    refine WL.alloc (m := 2) st ty_zero61 rfl rfl rfl ?_
    intro b4 w st
    -- R6.10 None := acquire.go:113 store
    first | refine WL.storeW (vs := [_, _]) st ty_agg61 rfl rfl rfl rfl rfl rfl ?_ | refine WL.storeL (vs := [_, _]) st ty_agg61 rfl rfl rfl rfl (by first | decide | omega) rfl rfl ?_ | refine WL.storeW (vs := [_, _]) st.front1 ty_agg61 rfl rfl rfl rfl rfl rfl ?_ | refine WL.storeL (vs := [_, _]) st.front1 ty_agg61 rfl rfl rfl rfl (by first | decide | omega) rfl rfl ?_ | refine WL.storeW (vs := [_, _]) st.front2 ty_agg61 rfl rfl rfl rfl rfl rfl ?_ | refine WL.storeL (vs := [_, _]) st.front2 ty_agg61 rfl rfl rfl rfl (by first | decide | omega) rfl rfl ?_ | refine WL.storeW (vs := [_, _]) st.front3 ty_agg61 rfl rfl rfl rfl rfl rfl ?_ | refine WL.storeL (vs := [_, _]) st.front3 ty_agg61 rfl rfl rfl rfl (by first | decide | omega) rfl rfl ?_ | refine WL.storeW (vs := [_, _]) st.front4 ty_agg61 rfl rfl rfl rfl rfl rfl ?_ | refine WL.storeL (vs := [_, _]) st.front4 ty_agg61 rfl rfl rfl rfl (by first | decide | omega) rfl rfl ?_ | refine WL.storeW (vs := [_, _]) st.front5 ty_agg61 rfl rfl rfl rfl rfl rfl ?_ | refine WL.storeL (vs := [_, _]) st.front5 ty_agg61 rfl rfl rfl rfl (by first | decide | omega) rfl rfl ?_ | refine WL.storeW (vs := [_, _]) st.front6 ty_agg61 rfl rfl rfl rfl rfl rfl ?_ | refine WL.storeL (vs := [_, _]) st.front6 ty_agg61 rfl rfl rfl rfl (by first | decide | omega) rfl rfl ?_ | refine WL.storeW (vs := [_, _]) st.front7 ty_agg61 rfl rfl rfl rfl rfl rfl ?_ | refine WL.storeL (vs := [_, _]) st.front7 ty_agg61 rfl rfl rfl rfl (by first | decide | omega) rfl rfl ?_ | refine WL.storeW (vs := [_, _]) st.front8 ty_agg61 rfl rfl rfl rfl rfl rfl ?_ | refine WL.storeL (vs := [_, _]) st.front8 ty_agg61 rfl rfl rfl rfl (by first | decide | omega) rfl rfl ?_
    intro w st
    -- R6.11 5 := acquire.go:113 assign
    refine WL.v (by first | exact r_assign (v := .bool _) rfl | exact r_assign rfl) rfl rfl rfl ?_
    refine WL.fin hK646 (fun _ _ h => h) ?_
    refine WC.seq fun K647 hK647 => ?_
    refine WC.seq fun K648 hK648 => ?_
    -- region 7
    refine WC.region ?_
    -- R7.0 20 := acquire.go:114 move
    refine WL.v (by first | exact r_move (v := .bool _) rfl | exact r_move rfl) rfl rfl rfl ?_
    -- R7.1 21 := acquire.go:114 unOp
    refine WL.v (by first | exact r_notT rfl | exact r_notF rfl | exact r_not rfl) rfl rfl rfl ?_
    -- R7.2 22 := acquire.go:114 move
    refine WL.v (by first | exact r_move (v := .bool _) rfl | exact r_move rfl) rfl rfl rfl ?_
    -- R7.3 23 := acquire.go:114 move
    refine WL.no rfl rfl ?_
    -- R7.4 24 := acquire.go:114 fieldAddr
    refine WL.no rfl rfl ?_
    -- R7.5 25 := acquire.go:114 load
    refine WL.no rfl rfl ?_
    -- R7.6 26 := acquire.go:114 move
    refine WL.no rfl rfl ?_
    -- R7.7 27 := acquire.go:114 fieldAddr
    refine WL.no rfl rfl ?_
    -- R7.8 28 := acquire.go:114 load
    refine WL.no rfl rfl ?_
    -- R7.9 29 := acquire.go:114 call
    refine WL.no rfl rfl ?_
    -- R7.10 30 := acquire.go:114 unOp
    refine WL.no rfl rfl ?_
    -- R7.11 31 := acquire.go:114 pick
    refine WL.v (by first | exact r_pickT (v := .bool _) rfl rfl | exact r_pickF (v := .bool _) rfl rfl) rfl rfl rfl ?_
    refine WL.fin hK648 (fun _ _ h => h) ?_
    refine WC.condT rfl rfl ?_
    refine WC.exitF hK645 (fun _ _ h => h) ?_
    -- region 5
    refine WC.region ?_
    -- R5.0 9 := acquire.go:111 move
    refine WL.v (by first | exact r_move (v := .int _ _) rfl | exact r_move rfl) rfl rfl rfl ?_
    -- R5.1 10 := acquire.go:111 binOp
    refine WL.v (by first | exact r_add rfl rfl (wi64 (by omega) (by omega)) | exact r_add rfl rfl rfl) rfl rfl rfl ?_
    -- R5.2 3 := acquire.go:111 assign
    refine WL.v (by first | exact r_assign (v := .int _ _) rfl | exact r_assign rfl) rfl rfl rfl ?_
    refine WL.next hK2 (fun _ _ h => h) (i + 1) ⟨hi', by rw [hz]; exact V.same st.drop⟩ (by omega) (by rw [hz]; repeat (first | exact sub_nil _ | refine sub_cons rfl rfl ?_))
  have hQ : s2.queue i = q :: Q := hQe
  have hqb := hB2.qt i q (by rw [hQ]; exact List.mem_cons_self)
  have hnn := hB2.nn
  have hql := q_len_le (queue := s2.queue) hi'
  have hQl : Q.length + 1 = (s2.queue i).length := by rw [hQ]; rfl
  rcases Bool.eq_false_or_eq_true (admissibleP s2 q.1 i q.2) with had | had
  · obtain ⟨m, rfl⟩ : ∃ m', m = m' + 1 := ⟨m - 1, by omega⟩
    rw [wakeR_yes hQ had] at hw1 hw2
    have hw2 : (true || (wakeR m (answerP (grantS s2 i q Q) q.1 0) i).2) = (a1 || (wakeQ s1 i).2) := by rw [← hw2, Bool.or_true, Bool.true_or]
    have hB3 := hB2.grantHead hi' hQ had
    have hl3 : ((answerP (grantS s2 i q Q) q.1 0).queue i).length = m := by
      show (updN s2.queue i Q i).length = m
      rw [updN_same]; omega
    refine WC.block ?_
    refine WC.seq fun K649 hK649 => ?_
    -- region 6
    refine WC.region ?_
    -- R6.0 12 := acquire.go:113 move
    refine WL.v (by first | exact r_move (v := .pointer _) rfl | exact r_move rfl) rfl rfl rfl ?_
    -- R6.1 13 := acquire.go:113 nilCheck
    refine WL.v (by exact r_nilCheck rfl) rfl rfl rfl ?_
    -- R6.2 14 := acquire.go:113 fieldAddr
    refine WL.v (by exact r_field ty_fld120_1 rfl) rfl rfl rfl ?_
    -- R6.3 15 := acquire.go:113 load
    refine WL.v (by exact r_load1 (v := .pointer (some ⟨B.br, 0, none⟩)) ty_one107 rfl (V.cr st)) rfl rfl rfl ?_
    -- R6.4 16 := acquire.go:113 move
    refine WL.v (by first | exact r_move (v := .int _ _) rfl | exact r_move rfl) rfl rfl rfl ?_
    -- R6.5 17 := acquire.go:113 call
    refine WL.call (r_call ty_call139 rfl) rfl rfl rfl (head_ok hi' V.r (V.q i hi') (V.qs i hi') st) ?_
    rintro _ w ⟨he, st⟩
    rw [hQ] at he
    subst he
    -- R6.6 11 := acquire.go:113 move
    refine WL.v (by first | exact r_move (v := .tuple _) rfl | exact r_move rfl) rfl rfl rfl ?_
    -- R6.7 18 := acquire.go:113 extract
    refine WL.v (by exact r_extract (v := .agg #[.int .i64 (q.1 : Nat), .int .i64 (q.2 : Nat)]) rfl rfl) rfl rfl rfl ?_
    -- R6.8 19 := acquire.go:113 extract
    refine WL.v (by first | exact r_extract (v := .bool _) rfl rfl | exact r_extract rfl rfl) rfl rfl rfl ?_
    -- R6.9 4 := acquire.go:113 alloc
    refine WL.alloc (m := 2) st ty_zero61 rfl rfl rfl ?_
    intro b4 w st
    -- R6.10 None := acquire.go:113 store
    first | refine WL.storeW (vs := [_, _]) st ty_agg61 rfl rfl rfl rfl rfl rfl ?_ | refine WL.storeL (vs := [_, _]) st ty_agg61 rfl rfl rfl rfl (by first | decide | omega) rfl rfl ?_ | refine WL.storeW (vs := [_, _]) st.front1 ty_agg61 rfl rfl rfl rfl rfl rfl ?_ | refine WL.storeL (vs := [_, _]) st.front1 ty_agg61 rfl rfl rfl rfl (by first | decide | omega) rfl rfl ?_ | refine WL.storeW (vs := [_, _]) st.front2 ty_agg61 rfl rfl rfl rfl rfl rfl ?_ | refine WL.storeL (vs := [_, _]) st.front2 ty_agg61 rfl rfl rfl rfl (by first | decide | omega) rfl rfl ?_ | refine WL.storeW (vs := [_, _]) st.front3 ty_agg61 rfl rfl rfl rfl rfl rfl ?_ | refine WL.storeL (vs := [_, _]) st.front3 ty_agg61 rfl rfl rfl rfl (by first | decide | omega) rfl rfl ?_ | refine WL.storeW (vs := [_, _]) st.front4 ty_agg61 rfl rfl rfl rfl rfl rfl ?_ | refine WL.storeL (vs := [_, _]) st.front4 ty_agg61 rfl rfl rfl rfl (by first | decide | omega) rfl rfl ?_ | refine WL.storeW (vs := [_, _]) st.front5 ty_agg61 rfl rfl rfl rfl rfl rfl ?_ | refine WL.storeL (vs := [_, _]) st.front5 ty_agg61 rfl rfl rfl rfl (by first | decide | omega) rfl rfl ?_ | refine WL.storeW (vs := [_, _]) st.front6 ty_agg61 rfl rfl rfl rfl rfl rfl ?_ | refine WL.storeL (vs := [_, _]) st.front6 ty_agg61 rfl rfl rfl rfl (by first | decide | omega) rfl rfl ?_ | refine WL.storeW (vs := [_, _]) st.front7 ty_agg61 rfl rfl rfl rfl rfl rfl ?_ | refine WL.storeL (vs := [_, _]) st.front7 ty_agg61 rfl rfl rfl rfl (by first | decide | omega) rfl rfl ?_ | refine WL.storeW (vs := [_, _]) st.front8 ty_agg61 rfl rfl rfl rfl rfl rfl ?_ | refine WL.storeL (vs := [_, _]) st.front8 ty_agg61 rfl rfl rfl rfl (by first | decide | omega) rfl rfl ?_
    intro w st
    -- R6.11 5 := acquire.go:113 assign
    refine WL.v (by first | exact r_assign (v := .bool _) rfl | exact r_assign rfl) rfl rfl rfl ?_
    refine WL.fin hK649 (fun _ _ h => h) ?_
    refine WC.seq fun K650 hK650 => ?_
    refine WC.seq fun K651 hK651 => ?_
    -- region 7
    refine WC.region ?_
    -- R7.0 20 := acquire.go:114 move
    refine WL.v (by first | exact r_move (v := .bool _) rfl | exact r_move rfl) rfl rfl rfl ?_
    -- R7.1 21 := acquire.go:114 unOp
    refine WL.v (by first | exact r_notT rfl | exact r_notF rfl | exact r_not rfl) rfl rfl rfl ?_
    -- R7.2 22 := acquire.go:114 move
    refine WL.v (by first | exact r_move (v := .bool _) rfl | exact r_move rfl) rfl rfl rfl ?_
    -- R7.3 23 := acquire.go:114 move
    refine WL.v (by first | exact r_move (v := .pointer _) rfl | exact r_move rfl) rfl rfl rfl ?_
    -- R7.4 24 := acquire.go:114 fieldAddr
    refine WL.v (by exact r_field ty_fld61_0 rfl) rfl rfl rfl ?_
    -- R7.5 25 := acquire.go:114 load
    refine WL.v (by exact r_load1 ty_one31 rfl (by first | assumption | exact st.c0 (by first | decide | omega) | exact st.c1 (by first | decide | omega) | exact st.c2 (by first | decide | omega) | exact st.c3 (by first | decide | omega) | exact st.c4 (by first | decide | omega) | exact st.c5 (by first | decide | omega) | exact st.c6 (by first | decide | omega) | exact st.c7 (by first | decide | omega) | exact st.c8 (by first | decide | omega))) rfl rfl rfl ?_
    -- R7.6 26 := acquire.go:114 move
    refine WL.v (by first | exact r_move (v := .int _ _) rfl | exact r_move rfl) rfl rfl rfl ?_
    -- R7.7 27 := acquire.go:114 fieldAddr
    refine WL.v (by exact r_field ty_fld61_1 rfl) rfl rfl rfl ?_
    -- R7.8 28 := acquire.go:114 load
    refine WL.v (by exact r_load1 ty_one3 rfl (by first | assumption | exact st.c0 (by first | decide | omega) | exact st.c1 (by first | decide | omega) | exact st.c2 (by first | decide | omega) | exact st.c3 (by first | decide | omega) | exact st.c4 (by first | decide | omega) | exact st.c5 (by first | decide | omega) | exact st.c6 (by first | decide | omega) | exact st.c7 (by first | decide | omega) | exact st.c8 (by first | decide | omega))) rfl rfl rfl ?_
    -- R7.9 29 := acquire.go:114 call
    refine WL.call (r_call ty_call140 rfl) rfl rfl rfl (admissible_ok hqb.1 hi' hqb.2 hB2.held hB2.claim (V.back (I := [lI b4 q]) st)) ?_
    rintro _ w ⟨he, st⟩
    rw [had] at he
    subst he
    -- R7.10 30 := acquire.go:114 unOp
    refine WL.v (by first | exact r_notT rfl | exact r_notF rfl | exact r_not rfl) rfl rfl rfl ?_
    -- R7.11 31 := acquire.go:114 pick
    refine WL.v (by first | exact r_pickT (v := .bool _) rfl rfl | exact r_pickF (v := .bool _) rfl rfl) rfl rfl rfl ?_
    refine WL.fin hK651 (fun _ _ h => h) ?_
    refine WC.condF rfl rfl ?_
    refine WC.skipF hK650 (fun _ _ h => h) ?_
    refine WC.seq fun K652 hK652 => ?_
    -- region 8
    obtain ⟨Y2, qv2, XQ2, tv2, ov2, V2, st⟩ := st.view
    refine WC.region ?_
    -- R8.0 32 := acquire.go:117 move
    refine WL.v (by first | exact r_move (v := .pointer _) rfl | exact r_move rfl) rfl rfl rfl ?_
    -- R8.1 33 := acquire.go:117 nilCheck
    refine WL.v (by exact r_nilCheck rfl) rfl rfl rfl ?_
    -- R8.2 34 := acquire.go:117 fieldAddr
    refine WL.v (by exact r_field ty_fld120_1 rfl) rfl rfl rfl ?_
    -- R8.3 35 := acquire.go:117 load
    refine WL.v (by exact r_load1 (v := .pointer (some ⟨B.br, 0, none⟩)) ty_one107 rfl (V2.cr st)) rfl rfl rfl ?_
    -- R8.4 36 := acquire.go:117 move
    refine WL.v (by first | exact r_move (v := .int _ _) rfl | exact r_move rfl) rfl rfl rfl ?_
    -- R8.5 37 := acquire.go:117 call
    obtain ⟨Y', th, back⟩ := (V2.same st).tab
    refine WL.call (r_call ty_call141 rfl) rfl rfl rfl (grantHead_ok hi' hQ (by omega) hqb.1 hqb.2 (hB2.held _ _) th) ?_
    rintro _ w ⟨rfl, th⟩
    have st : KH w0 B (grantS s2 i q Q) (lI b4 q :: l) w := back th
    obtain ⟨Y3, qv3, XQ3, tv3, ov3, V3, st⟩ := st.view
    refine WL.fin hK652 (fun _ _ h => h) ?_
    refine WC.seq fun K653 hK653 => ?_
    -- region 9
    refine WC.region ?_
    -- R9.0 38 := acquire.go:118 move
    refine WL.v (by first | exact r_move (v := .pointer _) rfl | exact r_move rfl) rfl rfl rfl ?_
    -- R9.1 39 := acquire.go:118 fieldAddr
    refine WL.v (by exact r_field ty_fld61_0 rfl) rfl rfl rfl ?_
    -- R9.2 40 := acquire.go:118 load
    refine WL.v (by exact r_load1 (v := .int .i64 (q.1 : Nat)) ty_one31 rfl (st.cell (t := 61) (n := 2) (f := nth [.int .i64 (q.1 : Nat), .int .i64 (q.2 : Nat)]) (V3.ls List.mem_cons_self) (by decide))) rfl rfl rfl ?_
    -- R9.3 41 := acquire.go:118 call
    refine WL.call (r_call ty_call115 rfl) rfl rfl rfl (answer_ok (s := grantS s2 i q Q) (code := 0) hqb.1 (by show s2.told.length ≤ 1000000; omega) (V3.same st)) ?_
    rintro _ w ⟨rfl, st⟩
    refine WL.fin hK653 (fun _ _ h => h) ?_
    -- region 10
    refine WC.region ?_
    -- R10.0 2 := acquire.go:119 assign
    refine WL.v (by first | exact r_assign (v := .bool _) rfl | exact r_assign rfl) rfl rfl rfl ?_
    refine WL.next hK3 (fun _ _ h => h) (answerP (grantS s2 i q Q) q.1 0, true, m) ⟨hB3, hl3, hw1, hw2, st.drop⟩ (Nat.lt_succ_self m) (by repeat (first | exact sub_nil _ | refine sub_cons rfl rfl ?_))
  · rw [wakeR_no hQ had] at hw1 hw2
    have hz : σ (i + 1) = (s2, a2) := by rw [hnx, ← hw1, ← hw2, Bool.or_false]
    refine WC.block ?_
    refine WC.seq fun K654 hK654 => ?_
    -- region 6
    refine WC.region ?_
    -- R6.0 12 := acquire.go:113 move
    refine WL.v (by first | exact r_move (v := .pointer _) rfl | exact r_move rfl) rfl rfl rfl ?_
    -- R6.1 13 := acquire.go:113 nilCheck
    refine WL.v (by exact r_nilCheck rfl) rfl rfl rfl ?_
    -- R6.2 14 := acquire.go:113 fieldAddr
    refine WL.v (by exact r_field ty_fld120_1 rfl) rfl rfl rfl ?_
    -- R6.3 15 := acquire.go:113 load
    refine WL.v (by exact r_load1 (v := .pointer (some ⟨B.br, 0, none⟩)) ty_one107 rfl (V.cr st)) rfl rfl rfl ?_
    -- R6.4 16 := acquire.go:113 move
    refine WL.v (by first | exact r_move (v := .int _ _) rfl | exact r_move rfl) rfl rfl rfl ?_
    -- R6.5 17 := acquire.go:113 call
    refine WL.call (r_call ty_call139 rfl) rfl rfl rfl (head_ok hi' V.r (V.q i hi') (V.qs i hi') st) ?_
    rintro _ w ⟨he, st⟩
    rw [hQ] at he
    subst he
    -- R6.6 11 := acquire.go:113 move
    refine WL.v (by first | exact r_move (v := .tuple _) rfl | exact r_move rfl) rfl rfl rfl ?_
    -- R6.7 18 := acquire.go:113 extract
    refine WL.v (by exact r_extract (v := .agg #[.int .i64 (q.1 : Nat), .int .i64 (q.2 : Nat)]) rfl rfl) rfl rfl rfl ?_
    -- R6.8 19 := acquire.go:113 extract
    refine WL.v (by first | exact r_extract (v := .bool _) rfl rfl | exact r_extract rfl rfl) rfl rfl rfl ?_
    -- R6.9 4 := acquire.go:113 alloc
    refine WL.alloc (m := 2) st ty_zero61 rfl rfl rfl ?_
    intro b4 w st
    -- R6.10 None := acquire.go:113 store
    first | refine WL.storeW (vs := [_, _]) st ty_agg61 rfl rfl rfl rfl rfl rfl ?_ | refine WL.storeL (vs := [_, _]) st ty_agg61 rfl rfl rfl rfl (by first | decide | omega) rfl rfl ?_ | refine WL.storeW (vs := [_, _]) st.front1 ty_agg61 rfl rfl rfl rfl rfl rfl ?_ | refine WL.storeL (vs := [_, _]) st.front1 ty_agg61 rfl rfl rfl rfl (by first | decide | omega) rfl rfl ?_ | refine WL.storeW (vs := [_, _]) st.front2 ty_agg61 rfl rfl rfl rfl rfl rfl ?_ | refine WL.storeL (vs := [_, _]) st.front2 ty_agg61 rfl rfl rfl rfl (by first | decide | omega) rfl rfl ?_ | refine WL.storeW (vs := [_, _]) st.front3 ty_agg61 rfl rfl rfl rfl rfl rfl ?_ | refine WL.storeL (vs := [_, _]) st.front3 ty_agg61 rfl rfl rfl rfl (by first | decide | omega) rfl rfl ?_ | refine WL.storeW (vs := [_, _]) st.front4 ty_agg61 rfl rfl rfl rfl rfl rfl ?_ | refine WL.storeL (vs := [_, _]) st.front4 ty_agg61 rfl rfl rfl rfl (by first | decide | omega) rfl rfl ?_ | refine WL.storeW (vs := [_, _]) st.front5 ty_agg61 rfl rfl rfl rfl rfl rfl ?_ | refine WL.storeL (vs := [_, _]) st.front5 ty_agg61 rfl rfl rfl rfl (by first | decide | omega) rfl rfl ?_ | refine WL.storeW (vs := [_, _]) st.front6 ty_agg61 rfl rfl rfl rfl rfl rfl ?_ | refine WL.storeL (vs := [_, _]) st.front6 ty_agg61 rfl rfl rfl rfl (by first | decide | omega) rfl rfl ?_ | refine WL.storeW (vs := [_, _]) st.front7 ty_agg61 rfl rfl rfl rfl rfl rfl ?_ | refine WL.storeL (vs := [_, _]) st.front7 ty_agg61 rfl rfl rfl rfl (by first | decide | omega) rfl rfl ?_ | refine WL.storeW (vs := [_, _]) st.front8 ty_agg61 rfl rfl rfl rfl rfl rfl ?_ | refine WL.storeL (vs := [_, _]) st.front8 ty_agg61 rfl rfl rfl rfl (by first | decide | omega) rfl rfl ?_
    intro w st
    -- R6.11 5 := acquire.go:113 assign
    refine WL.v (by first | exact r_assign (v := .bool _) rfl | exact r_assign rfl) rfl rfl rfl ?_
    refine WL.fin hK654 (fun _ _ h => h) ?_
    refine WC.seq fun K655 hK655 => ?_
    refine WC.seq fun K656 hK656 => ?_
    -- region 7
    refine WC.region ?_
    -- R7.0 20 := acquire.go:114 move
    refine WL.v (by first | exact r_move (v := .bool _) rfl | exact r_move rfl) rfl rfl rfl ?_
    -- R7.1 21 := acquire.go:114 unOp
    refine WL.v (by first | exact r_notT rfl | exact r_notF rfl | exact r_not rfl) rfl rfl rfl ?_
    -- R7.2 22 := acquire.go:114 move
    refine WL.v (by first | exact r_move (v := .bool _) rfl | exact r_move rfl) rfl rfl rfl ?_
    -- R7.3 23 := acquire.go:114 move
    refine WL.v (by first | exact r_move (v := .pointer _) rfl | exact r_move rfl) rfl rfl rfl ?_
    -- R7.4 24 := acquire.go:114 fieldAddr
    refine WL.v (by exact r_field ty_fld61_0 rfl) rfl rfl rfl ?_
    -- R7.5 25 := acquire.go:114 load
    refine WL.v (by exact r_load1 ty_one31 rfl (by first | assumption | exact st.c0 (by first | decide | omega) | exact st.c1 (by first | decide | omega) | exact st.c2 (by first | decide | omega) | exact st.c3 (by first | decide | omega) | exact st.c4 (by first | decide | omega) | exact st.c5 (by first | decide | omega) | exact st.c6 (by first | decide | omega) | exact st.c7 (by first | decide | omega) | exact st.c8 (by first | decide | omega))) rfl rfl rfl ?_
    -- R7.6 26 := acquire.go:114 move
    refine WL.v (by first | exact r_move (v := .int _ _) rfl | exact r_move rfl) rfl rfl rfl ?_
    -- R7.7 27 := acquire.go:114 fieldAddr
    refine WL.v (by exact r_field ty_fld61_1 rfl) rfl rfl rfl ?_
    -- R7.8 28 := acquire.go:114 load
    refine WL.v (by exact r_load1 ty_one3 rfl (by first | assumption | exact st.c0 (by first | decide | omega) | exact st.c1 (by first | decide | omega) | exact st.c2 (by first | decide | omega) | exact st.c3 (by first | decide | omega) | exact st.c4 (by first | decide | omega) | exact st.c5 (by first | decide | omega) | exact st.c6 (by first | decide | omega) | exact st.c7 (by first | decide | omega) | exact st.c8 (by first | decide | omega))) rfl rfl rfl ?_
    -- R7.9 29 := acquire.go:114 call
    refine WL.call (r_call ty_call140 rfl) rfl rfl rfl (admissible_ok hqb.1 hi' hqb.2 hB2.held hB2.claim (V.back (I := [lI b4 q]) st)) ?_
    rintro _ w ⟨he, st⟩
    rw [had] at he
    subst he
    -- R7.10 30 := acquire.go:114 unOp
    refine WL.v (by first | exact r_notT rfl | exact r_notF rfl | exact r_not rfl) rfl rfl rfl ?_
    -- R7.11 31 := acquire.go:114 pick
    refine WL.v (by first | exact r_pickT (v := .bool _) rfl rfl | exact r_pickF (v := .bool _) rfl rfl) rfl rfl rfl ?_
    refine WL.fin hK656 (fun _ _ h => h) ?_
    refine WC.condT rfl rfl ?_
    refine WC.exitF hK645 (fun _ _ h => h) ?_
    -- region 5
    refine WC.region ?_
    -- R5.0 9 := acquire.go:111 move
    refine WL.v (by first | exact r_move (v := .int _ _) rfl | exact r_move rfl) rfl rfl rfl ?_
    -- R5.1 10 := acquire.go:111 binOp
    refine WL.v (by first | exact r_add rfl rfl (wi64 (by omega) (by omega)) | exact r_add rfl rfl rfl) rfl rfl rfl ?_
    -- R5.2 3 := acquire.go:111 assign
    refine WL.v (by first | exact r_assign (v := .int _ _) rfl | exact r_assign rfl) rfl rfl rfl ?_
    refine WL.next hK2 (fun _ _ h => h) (i + 1) ⟨hi', by rw [hz]; exact st.drop⟩ (by omega) (by rw [hz]; repeat (first | exact sub_nil _ | refine sub_cons rfl rfl ?_))
end Go.Proofs.Qxb6500834aGreatDoor

