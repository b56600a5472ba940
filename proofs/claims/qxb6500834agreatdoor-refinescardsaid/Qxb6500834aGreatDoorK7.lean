import Derived.Test.Qxb6500834aGreatDoorK6
set_option linter.unusedVariables false
set_option linter.unusedSimpArgs false
set_option maxRecDepth 20000
namespace Go.Proofs.Qxb6500834aGreatDoor
open Go.RowKit Go.E1 Go.Kern
variable {w0 : World} {L L' l I J K K' X : List HI} {w : World} {M : KM} {s : KS} {XQ : Nat → List HI}
variable {br bp bm mode now armed t r : Nat} {held claim : Nat → Nat → Nat} {qv : Nat → Value} {tk : Nat → TK} {cells : Nat → Nat} {births : Nat} {ov v : Value} {Q : List (Nat × Nat)} {queue : Nat → List (Nat × Nat)}

/-! The tables whole: their row and the queues' rows. -/
def TH (w0 : World) (br : Nat) (held : Nat → Nat → Nat) (queue : Nat → List (Nat × Nat)) (l : List HI) (w : World) : Prop :=
  ∃ qv XQ, (∀ r, r < 20 → QL0 (qv r) (queue r) (XQ r)) ∧ S0 w0 (rI br held qv :: (gather 20 XQ ++ l)) w
theorem TH.congr {queue' : Nat → List (Nat × Nat)} (h : TH w0 br held queue l w) (e : ∀ r, r < 20 → queue r = queue' r) : TH w0 br held queue' l w := by
  obtain ⟨qv, XQ, hq, st⟩ := h
  exact ⟨qv, XQ, fun r hr => by rw [← e r hr]; exact hq r hr, st⟩
theorem TH.drop (h : TH w0 br held queue l w) : S0 w0 l w := by
  obtain ⟨qv, XQ, hq, st⟩ := h
  exact st.drop.perm List.perm_append_comm |>.sublist (List.sublist_append_left _ _)
theorem TH.perm {l' : List HI} (h : TH w0 br held queue l w) (p : l.Perm l') : TH w0 br held queue l' w := by
  obtain ⟨qv, XQ, hq, st⟩ := h
  exact ⟨qv, XQ, hq, st.perm ((p.append_left _).cons _)⟩
theorem updN_self {α : Type} {f : Nat → α} {i : Nat} : updN f i (f i) = f := by
  funext j
  unfold updN
  split
  · rename_i h; rw [h]
  · rfl
theorem q_split (hr : r < 20) (XQ : Nat → List HI) : ∃ R, (gather 20 XQ).Perm (XQ r ++ R) ∧ ∀ X', (gather 20 (updN XQ r X')).Perm (X' ++ R) := by
  obtain ⟨R, hR⟩ := gather_at hr XQ
  exact ⟨R, hR XQ (fun _ _ => rfl), fun X' => by have := hR (updN XQ r X') (fun j hj => updN_ne hj); rw [updN_same] at this; exact this⟩
theorem q_in {it : HI} {R : List HI} (h : (gather 20 XQ).Perm (X ++ R)) (st : S0 w0 (it :: (gather 20 XQ ++ l)) w) : S0 w0 (X ++ (it :: (R ++ l))) w :=
  (st.perm ((h.append_right l).cons it)).perm (by classical exact List.perm_iff_count.2 fun x => by simp only [List.count_append, List.count_cons, List.count_nil, List.append_eq, List.cons_append, List.nil_append, List.append_assoc, Nat.add_zero, Nat.zero_add] <;> ac_rfl)
theorem q_out {it : HI} {R : List HI} (h : (gather 20 XQ).Perm (X ++ R)) (st : S0 w0 (X ++ (it :: (R ++ l))) w) : S0 w0 (it :: (gather 20 XQ ++ l)) w :=
  (show S0 w0 (it :: (X ++ R ++ l)) w from st.perm (by classical exact List.perm_iff_count.2 fun x => by simp only [List.count_append, List.count_cons, List.count_nil, List.append_eq, List.cons_append, List.nil_append, List.append_assoc, Nat.add_zero, Nat.zero_add] <;> ac_rfl)).perm ((h.symm.append_right l).cons it)
theorem TH.upd {R : List HI} {Q' : List (Nat × Nat)} (hq : ∀ r, r < 20 → QL0 (qv r) (queue r) (XQ r)) (hR : ∀ X', (gather 20 (updN XQ r X')).Perm (X' ++ R)) {v' : Value} {X' : List HI} (hv : QL0 v' Q' X')
    (st : S0 w0 (X' ++ (rI br held (updN qv r v') :: (R ++ l))) w) : TH w0 br held (updN queue r Q') l w := by
  refine ⟨updN qv r v', updN XQ r X', fun r' hr' => ?_, q_out (hR X') st⟩
  by_cases h : r' = r
  · subst h; rw [updN_same, updN_same, updN_same]; exact hv
  · rw [updN_ne h, updN_ne h, updN_ne h]; exact hq r' hr'
theorem mem_rI {Y Z : List HI} : rI br held qv ∈ Y ++ (rI br held qv :: Z) := List.mem_append_right _ List.mem_cons_self
theorem beqI {a b : Nat} : decide ((a : Int) = (b : Int)) = (a == b) := by
  rw [Bool.beq_eq_decide_eq, decide_eq_decide]; omega

theorem enqueue_ok {u : Nat} (hr : r < 20) (hlen : (queue r).length ≤ 1000000) (st : TH w0 br held queue l w) :
    Calls Tryz.prog 137 #[.pointer (some ⟨br, 0, none⟩), .int .i64 (t : Nat), .int .i64 (r : Nat), .int .i64 (u : Nat)] w (Ret fun v w' => v = .tuple #[] ∧ TH w0 br held (updN queue r (queue r ++ [(t, u)])) l w') := by
  obtain ⟨qv, XQ, hq, st⟩ := st
  obtain ⟨R, h1, h2⟩ := q_split hr XQ
  have st := q_in h1 st
  have ho := hq r hr
  refine enter [.pointer (some ⟨br, 0, none⟩), .int .i64 (t : Nat), .int .i64 (r : Nat), .int .i64 (u : Nat)] Tryz.func137 rfl Tryz.ntmps137 rfl ?_
  show WC _ _ _ 24 [] [(0, .pointer (some ⟨br, 0, none⟩)), (1, .int .i64 (t : Nat)), (2, .int .i64 (r : Nat)), (3, .int .i64 (u : Nat))] _
  -- region 0 (draws)
  refine WC.heldS2 [12, 15, 16] [2, 3, 4, 5, 6, 7] [0, 1, 8, 9, 10, 13, 14] [11, 12, 15, 16] st (st) ty_mixed (by kernel_rfl) fun w st Kq Kq2 hKq hKq2 => ?_
  -- R0.2 10 := resourcem.go:108 move
  refine HL.v (fun w st => by first | exact r_move (v := .pointer _) rfl | exact r_move rfl) rfl rfl rfl ?_
  -- R0.3 11 := resourcem.go:108 move
  refine HL.v (fun w st => by first | exact r_move (v := .int _ _) rfl | exact r_move rfl) rfl rfl rfl ?_
  -- R0.4 12 := resourcem.go:108 nilCheck
  refine HL.v (fun w st => by exact r_nilCheck rfl) rfl rfl rfl ?_
  -- R0.5 13 := resourcem.go:108 fieldAddr
  refine HL.v (fun w st => by exact r_field ty_fld149_1 rfl) rfl rfl rfl ?_
  -- R0.6 14 := resourcem.go:108 indexAddr
  refine HL.v (fun w st => by exact r_indexA ty_ar47 rfl rfl rfl (by omega)) rfl rfl rfl ?_
  -- R0.7 15 := resourcem.go:108 load
  refine HL.v (fun w st => by exact r_load1 (v := qv r) ty_one46 rfl (c_queue st mem_rI hr)) rfl rfl rfl ?_
  refine HL.pure hKq ?_
  -- R0.0 8 := resourcem.go:108 move
  refine HL.v (fun w _ => by first | exact r_move (v := .pointer _) rfl | exact r_move rfl) rfl rfl rfl ?_
  -- R0.1 9 := resourcem.go:108 move
  refine HL.v (fun w _ => by first | exact r_move (v := .int _ _) rfl | exact r_move rfl) rfl rfl rfl ?_
  -- R0.8 16 := resourcem.go:108 move
  refine HL.v (fun w _ => by first | exact r_move (v := .int _ _) rfl | exact r_move rfl) rfl rfl rfl ?_
  -- R0.9 17 := resourcem.go:108 move
  refine HL.v (fun w _ => by first | exact r_move (v := .int _ _) rfl | exact r_move rfl) rfl rfl rfl ?_
  -- R0.10 18 := resourcem.go:108 build
  refine HL.v (fun w _ => by exact r_build (ps := [(0, .int _ _), (1, .int _ _)]) (vs := [_, _]) ty_pl61 ty_zero61 rfl (fill_step (pv := [_]) (cs' := [_, _]) rfl rfl rfl rfl (fill_step (pv := [_]) (cs' := [_, _]) rfl rfl rfl rfl (fill_nil)))) rfl rfl rfl ?_
  -- R0.13 21 := resourcem.go:108 nilCheck
  refine HL.v (fun w _ => by exact r_nilCheck rfl) rfl rfl rfl ?_
  -- R0.14 22 := resourcem.go:108 fieldAddr
  refine HL.v (fun w _ => by exact r_field ty_fld149_1 rfl) rfl rfl rfl ?_
  refine HL.fin hKq2 ?_
  refine TL.at ?_
  -- R0.11 19 := resourcem.go:108 buildSlice
  first | refine WL.mkslice (m := 2) (vs := [.int _ _, .int _ _]) st ty_sl46 ty_zero61 rfl rfl rfl rfl rfl rfl ?_ | refine WL.mkslice (m := 2) (vs := [_, _]) st ty_sl46 ty_zero61 rfl rfl rfl rfl rfl rfl ?_ | refine WL.mkslice st ty_sl46 ty_zero61 rfl rfl rfl rfl rfl rfl ?_
  intro b19 w st
  refine TL.nxt (by first | exact st | exact st.drop | exact st.drop1 | exact st.drop2 | exact st.drop3 | exact st.drop4 | exact st.drop.drop | exact st.drop.drop1 | exact st.drop.drop2 | exact st.drop.drop3 | exact st.drop.drop4 | exact st.drop.drop.drop | exact st.drop.drop.drop.drop | exact st_dropL st | exact st_dropL st.drop | exact st_none st) ?_
  refine TL.at ?_
  -- R0.12 20 := resourcem.go:108 call
  have c0 : ∀ k, k < 2 → w.cell? ⟨b19, 0 + k, none⟩ = some (qE (t, u) k) := fun k hk => by rw [st.c0 (by omega), Nat.zero_add]; rfl
  refine WL.appL (bx := b19) (ox := 0) (a := (t, u)) ho (st.perm (List.perm_append_comm_assoc [_] (XQ r) _)) ty_mk46 ty_zero61 rfl (by decide) rfl rfl c0 (fun k hk => by match k with | 0 => rfl | 1 => rfl | k + 2 => omega) (by omega) (by omega) rfl rfl rfl ?_
  intro v' X' w ho st
  obtain ⟨a', c', b', rfl, -, -, -, -⟩ := ho.form
  have st : S0 w0 (X' ++ (rI br held qv :: (R ++ l))) w := (st.perm (List.perm_append_comm_assoc X' [_] _)).drop
  have st : S0 w0 (rI br held qv :: (X' ++ (R ++ l))) w := st.perm (by classical exact List.perm_iff_count.2 fun x => by simp only [List.count_append, List.count_cons, List.count_nil, List.append_eq, List.cons_append, List.nil_append, List.append_assoc, Nat.add_zero, Nat.zero_add] <;> ac_rfl)
  refine TL.nxt' rfl ?_
  refine TL.at ?_
  -- R0.15 23 := resourcem.go:108 indexAddr
  refine WL.v (by exact r_indexA ty_ar47 rfl rfl rfl (by omega)) rfl rfl rfl ?_
  refine TL.nxt' rfl ?_
  refine TL.at ?_
  -- R0.16 None := resourcem.go:108 store
  first | refine WL.store (v := .slice _ _ _) st ty_one46 rfl rfl rfl (by first | decide | omega) rfl rfl ?_ | refine WL.store (v := _) st ty_one46 rfl rfl rfl (by first | decide | omega) rfl rfl ?_ | refine WL.store (v := .slice _ _ _) st.front1 ty_one46 rfl rfl rfl (by first | decide | omega) rfl rfl ?_ | refine WL.store (v := _) st.front1 ty_one46 rfl rfl rfl (by first | decide | omega) rfl rfl ?_ | refine WL.store (v := .slice _ _ _) st.front2 ty_one46 rfl rfl rfl (by first | decide | omega) rfl rfl ?_ | refine WL.store (v := _) st.front2 ty_one46 rfl rfl rfl (by first | decide | omega) rfl rfl ?_ | refine WL.store (v := .slice _ _ _) st.front3 ty_one46 rfl rfl rfl (by first | decide | omega) rfl rfl ?_ | refine WL.store (v := _) st.front3 ty_one46 rfl rfl rfl (by first | decide | omega) rfl rfl ?_ | refine WL.store (v := .slice _ _ _) st.front4 ty_one46 rfl rfl rfl (by first | decide | omega) rfl rfl ?_ | refine WL.store (v := _) st.front4 ty_one46 rfl rfl rfl (by first | decide | omega) rfl rfl ?_ | refine WL.store (v := .slice _ _ _) st.front5 ty_one46 rfl rfl rfl (by first | decide | omega) rfl rfl ?_ | refine WL.store (v := _) st.front5 ty_one46 rfl rfl rfl (by first | decide | omega) rfl rfl ?_ | refine WL.store (v := .slice _ _ _) st.front6 ty_one46 rfl rfl rfl (by first | decide | omega) rfl rfl ?_ | refine WL.store (v := _) st.front6 ty_one46 rfl rfl rfl (by first | decide | omega) rfl rfl ?_ | refine WL.store (v := .slice _ _ _) st.front7 ty_one46 rfl rfl rfl (by first | decide | omega) rfl rfl ?_ | refine WL.store (v := _) st.front7 ty_one46 rfl rfl rfl (by first | decide | omega) rfl rfl ?_ | refine WL.store (v := .slice _ _ _) st.front8 ty_one46 rfl rfl rfl (by first | decide | omega) rfl rfl ?_ | refine WL.store (v := _) st.front8 ty_one46 rfl rfl rfl (by first | decide | omega) rfl rfl ?_
  intro w st
  refine TL.nxt' rfl ?_
  refine TL.wl ?_
  refine WL.end0 Tryz.results137 (fun _ _ h => h) ?_
  exact ⟨_, rfl, rfl, TH.upd hq h2 ho ((stE (rF_setq hr) st).perm (by classical exact List.perm_iff_count.2 fun x => by simp only [List.count_append, List.count_cons, List.count_nil, List.append_eq, List.cons_append, List.nil_append, List.append_assoc, Nat.add_zero, Nat.zero_add] <;> ac_rfl))⟩

set_option maxHeartbeats 4000000 in
theorem del0_ok {q : Nat × Nat} {X : List HI} (hq : QL0 v (q :: Q) X) (hlen : Q.length ≤ 1000000) (st : S0 w0 (X ++ l) w) :
    Calls Tryz.prog 163 #[v, .int .i64 0, .int .i64 1] w (Ret fun u w' => ∃ X', QL0 u Q X' ∧ S0 w0 (X' ++ l) w') := by
  obtain ⟨b, c, f, rfl, hc1, hc2, rfl, hf⟩ := hq.row (by simp)
  rw [List.length_cons] at hc1
  have st : S0 w0 ((b, Row 61 (c * 2) f) :: l) w := st
  have hsl : slA (some ⟨b, 0, none⟩) 1 c 2 = some ⟨b, if c = 1 then 0 else 2, none⟩ := by
    by_cases h : c = 1
    · subst h; rfl
    · rw [slA_some (by omega), if_neg h]
  have hcell : ∀ i x, Q[i]? = some x → ∀ j, j < 2 → f (2 + (i * 2 + j)) = qE x j := fun i x hx j hj => by
    have := hf (i + 1) x hx j hj
    rw [show (i + 1) * 2 + j = 2 + (i * 2 + j) by omega] at this; exact this
  have hone : ∀ j, j < Q.length * 2 → (f (2 + j)).oneCell' = true := fun j hj => by
    obtain ⟨x, hx⟩ : ∃ x, Q[j / 2]? = some x := ⟨_, List.getElem?_eq_getElem (by omega)⟩
    have := hcell (j / 2) x hx (j % 2) (by omega)
    rw [show j / 2 * 2 + j % 2 = j by omega] at this
    rw [this]
    rcases Nat.mod_two_eq_zero_or_one j with h | h <;> rw [h] <;> rfl
  refine enter [.slice (some ⟨b, 0, none⟩) (Q.length + 1) c, .int .i64 0, .int .i64 1] Tryz.func163 rfl Tryz.ntmps163 rfl ?_
  show WC _ _ _ 33 [] [(0, .slice (some ⟨b, 0, none⟩) (Q.length + 1) c), (1, .int .i64 0), (2, .int .i64 1)] _
  refine WC.seq fun K208 hK208 => ?_
  -- region 0
  refine WC.region ?_
  -- R0.0 6 := slices.go:224 assign
  refine WL.v (by first | exact r_assign (v := .slice _ _ _) rfl | exact r_assign rfl) rfl rfl rfl ?_
  refine WL.fin hK208 (fun _ _ h => h) ?_
  refine WC.seq fun K209 hK209 => ?_
  -- region 1
  refine WC.region ?_
  -- R1.0 8 := slices.go:225 move
  refine WL.v (by first | exact r_move (v := .slice _ _ _) rfl | exact r_move rfl) rfl rfl rfl ?_
  -- R1.1 9 := slices.go:225 move
  refine WL.v (by first | exact r_move (v := .int _ _) rfl | exact r_move rfl) rfl rfl rfl ?_
  -- R1.2 10 := slices.go:225 move
  refine WL.v (by first | exact r_move (v := .int _ _) rfl | exact r_move rfl) rfl rfl rfl ?_
  -- R1.3 11 := slices.go:225 move
  refine WL.v (by first | exact r_move (v := .slice _ _ _) rfl | exact r_move rfl) rfl rfl rfl ?_
  -- R1.4 12 := slices.go:225 call
  refine WL.v (by exact r_len (m := Q.length + 1) ty_usl46 rfl) rfl rfl rfl ?_
  -- R1.5 13 := slices.go:225 slice
  refine WL.v (by exact r_slS (l := 0) (h := 1) (m := Q.length + 1) ty_sl46 rfl ⟨_, rfl⟩ ⟨_, rfl⟩ ⟨_, rfl⟩ (fun h => by cases h) (by omega) (by omega) (by omega) (by omega)) rfl rfl rfl ?_
  refine WL.fin hK209 (fun _ _ h => h) ?_
  refine WC.seq fun K210 hK210 => ?_
  refine WC.seq fun K211 hK211 => ?_
  -- region 2
  refine WC.region ?_
  -- R2.0 14 := slices.go:227 move
  refine WL.v (by first | exact r_move (v := .int _ _) rfl | exact r_move rfl) rfl rfl rfl ?_
  -- R2.1 15 := slices.go:227 move
  refine WL.v (by first | exact r_move (v := .int _ _) rfl | exact r_move rfl) rfl rfl rfl ?_
  -- R2.2 16 := slices.go:227 binOp
  refine WL.v (by first | exact r_eql rfl rfl (decide_eq_true (by omega)) | exact r_eql rfl rfl (decide_eq_false (by omega)) | exact r_eql rfl rfl rfl) rfl rfl rfl ?_
  refine WL.fin hK211 (fun _ _ h => h) ?_
  refine WC.condF rfl rfl ?_
  refine WC.skipF hK210 (fun _ _ h => h) ?_
  refine WC.seq fun K212 hK212 => ?_
  -- region 4
  refine WC.region ?_
  -- R4.0 18 := slices.go:231 move
  refine WL.v (by first | exact r_move (v := .slice _ _ _) rfl | exact r_move rfl) rfl rfl rfl ?_
  -- R4.1 19 := slices.go:231 call
  refine WL.v (by exact r_len (m := Q.length + 1) ty_usl46 rfl) rfl rfl rfl ?_
  -- R4.2 7 := slices.go:231 assign
  refine WL.v (by first | exact r_assign (v := .int _ _) rfl | exact r_assign rfl) rfl rfl rfl ?_
  refine WL.fin hK212 (fun _ _ h => h) ?_
  refine WC.seq fun K213 hK213 => ?_
  -- region 5 (draws)
  refine WC.tailS 6 st ty_mixed (by kernel_rfl) fun w st Kq hKq => ?_
  -- R5.0 20 := slices.go:232 move
  refine SL.v (by first | exact r_move (v := .slice _ _ _) rfl | exact r_move rfl) rfl rfl rfl ?_
  -- R5.1 21 := slices.go:232 move
  refine SL.v (by first | exact r_move (v := .int _ _) rfl | exact r_move rfl) rfl rfl rfl ?_
  -- R5.2 22 := slices.go:232 slice
  refine SL.v (by exact r_slS (l := 0) (h := 0) (m := c) ty_sl46 rfl rfl ⟨_, rfl⟩ rfl (fun h => by cases h) (by omega) (by omega) (by omega) (by omega)) rfl rfl rfl ?_
  -- R5.3 23 := slices.go:232 move
  refine SL.v (by first | exact r_move (v := .slice _ _ _) rfl | exact r_move rfl) rfl rfl rfl ?_
  -- R5.4 24 := slices.go:232 move
  refine SL.v (by first | exact r_move (v := .int _ _) rfl | exact r_move rfl) rfl rfl rfl ?_
  -- R5.5 25 := slices.go:232 slice
  refine SL.v (by exact r_sl (l := 1) (h := Q.length + 1) (m := c) ty_sl46 rfl ⟨_, rfl⟩ rfl rfl (fun _ => rfl) (by omega) (by omega) (by omega)) rfl rfl rfl ?_
  refine SL.fin hKq ?_
  -- R5.6 26 := slices.go:232 call
  refine WL.appendR (nn := 0) (m := Q.length) (cap := c) (off := 0) (bx := b) (ox := if c = 1 then 0 else 2) (c := c - 1) (news := fun j => f (2 + j)) st ty_sl46 rfl (by rw [← hsl]; rfl) (by omega) (by omega) ?_ ?_ rfl rfl rfl ?_
  · intro j hj; rw [show (if c = 1 then 0 else 2) = 2 from if_neg (by omega)]; exact st.c0 (by omega)
  · intro j hj; exact hone j hj
  intro w st
  rw [show 0 + Q.length = Q.length from Nat.zero_add _]
  -- R5.7 0 := slices.go:232 assign
  refine WL.v (by first | exact r_assign (v := .slice _ _ _) rfl | exact r_assign rfl) rfl rfl rfl ?_
  refine WL.fin hK213 (fun _ _ h => h) ?_
  refine WC.seq fun K214 hK214 => ?_
  -- region 6
  refine WC.region ?_
  -- R6.0 27 := slices.go:233 move
  refine WL.v (by first | exact r_move (v := .slice _ _ _) rfl | exact r_move rfl) rfl rfl rfl ?_
  -- R6.1 28 := slices.go:233 move
  refine WL.v (by first | exact r_move (v := .slice _ _ _) rfl | exact r_move rfl) rfl rfl rfl ?_
  -- R6.2 29 := slices.go:233 call
  refine WL.v (by exact r_len (m := Q.length) ty_usl46 rfl) rfl rfl rfl ?_
  -- R6.3 30 := slices.go:233 move
  refine WL.v (by first | exact r_move (v := .int _ _) rfl | exact r_move rfl) rfl rfl rfl ?_
  -- R6.4 31 := slices.go:233 slice
  refine WL.v (by exact r_slS (l := Q.length) (h := Q.length + 1) (m := c) ty_sl46 rfl ⟨_, rfl⟩ ⟨_, rfl⟩ rfl (fun h => by cases h) (by omega) (by omega) (by omega) (by omega)) rfl rfl rfl ?_
  -- R6.5 None := slices.go:233 call
  refine WL.clear (k := 1) (N := c * 2) st ty_sl46 ty_zero61 rfl (by decide) (by omega) (by decide) (by rw [show Q.length + 1 - Q.length = 1 by omega]; rfl) (by omega) rfl rfl ?_
  intro w st
  refine WL.fin hK214 (fun _ _ h => h) ?_
  refine WC.seq fun K215 hK215 => ?_
  -- region 7
  refine WC.region ?_
  -- R7.0 32 := slices.go:234 move
  refine WL.v (by first | exact r_move (v := .slice _ _ _) rfl | exact r_move rfl) rfl rfl rfl ?_
  -- R7.1 6 := slices.go:234 assign
  refine WL.v (by first | exact r_assign (v := .slice _ _ _) rfl | exact r_assign rfl) rfl rfl rfl ?_
  refine WL.fin hK215 (fun _ _ h => h) ?_
  refine WC.ret1 Tryz.results163 (fun _ _ h => h) rfl ?_
  refine ⟨_, rfl, [_], LO.of (by omega) hc2 fun i x hx j hj => ?_, st⟩
  have hi : i < Q.length := (List.getElem?_eq_some_iff.1 hx).1
  rw [upds_eq, if_neg (by omega), upds_eq, if_pos (by omega), ← hcell i x hx j hj]
  congr 1

set_option maxHeartbeats 4000000 in
theorem grantHead_ok {q : Nat × Nat} (hr : r < 20) (hQ : queue r = q :: Q) (hlen : Q.length ≤ 1000000) (ht : q.1 < 16) (hu : q.2 ≤ 16) (hh : held q.1 r ≤ 16) (st : TH w0 br held queue l w) :
    Calls Tryz.prog 141 #[.pointer (some ⟨br, 0, none⟩), .int .i64 (r : Nat)] w (Ret fun v w' => v = .tuple #[] ∧ TH w0 br (upd2 held q.1 r (held q.1 r + q.2)) (updN queue r Q) l w') := by
  obtain ⟨qv, XQ, hq, st⟩ := st
  obtain ⟨R, h1, h2⟩ := q_split hr XQ
  have st := q_in h1 st
  have ho := hq r hr
  rw [hQ] at ho
  obtain ⟨b, c, f, hv, hc1, hc2, hXr, hf⟩ := ho.row (by simp)
  have hv : qv r = .slice (some ⟨b, 0, none⟩) (Q.length + 1) c := hv
  rw [hXr] at st ho
  have st : S0 w0 ((b, Row 61 (c * 2) f) :: (rI br held qv :: (R ++ l))) w := st
  rw [List.length_cons] at hc1
  have f0 : f 0 = .int .i64 (q.1 : Nat) := hf 0 q rfl 0 (by decide)
  have f1 : f 1 = .int .i64 (q.2 : Nat) := hf 0 q rfl 1 (by decide)
  refine enter [.pointer (some ⟨br, 0, none⟩), .int .i64 (r : Nat)] Tryz.func141 rfl Tryz.ntmps141 rfl ?_
  show WC _ _ _ 32 [] [(0, .pointer (some ⟨br, 0, none⟩)), (1, .int .i64 (r : Nat))] _
  refine WC.seq fun K216 hK216 => ?_
  -- region 0
  refine WC.region ?_
  -- R0.0 5 := resourcem.go:121 move
  refine WL.v (by first | exact r_move (v := .pointer _) rfl | exact r_move rfl) rfl rfl rfl ?_
  -- R0.1 6 := resourcem.go:121 move
  refine WL.v (by first | exact r_move (v := .int _ _) rfl | exact r_move rfl) rfl rfl rfl ?_
  -- R0.2 7 := resourcem.go:121 nilCheck
  refine WL.v (by exact r_nilCheck rfl) rfl rfl rfl ?_
  -- R0.3 8 := resourcem.go:121 fieldAddr
  refine WL.v (by exact r_field ty_fld149_1 rfl) rfl rfl rfl ?_
  -- R0.4 9 := resourcem.go:121 indexAddr
  refine WL.v (by exact r_indexA ty_ar47 rfl rfl rfl (by omega)) rfl rfl rfl ?_
  -- R0.5 10 := resourcem.go:121 load
  refine WL.v (by exact r_load1 (v := .slice (some ⟨b, 0, none⟩) (Q.length + 1) c) ty_one46 rfl (by rw [c_queue (held := held) (qv := qv) st (by simp) hr, hv])) rfl rfl rfl ?_
  -- R0.6 11 := resourcem.go:121 indexAddr
  refine WL.v (by exact r_indexS (j := 0) ty_sl46 rfl rfl rfl (by omega)) rfl rfl rfl ?_
  -- R0.7 12 := resourcem.go:121 load
  refine WL.v (by exact r_loadL (vs := [.int .i64 (q.1 : Nat), .int .i64 (q.2 : Nat)]) ty_agg61 rfl ⟨by rw [← f0]; exact st.c0 (by omega), by rw [← f1]; exact st.c0 (by omega), trivial⟩) rfl rfl rfl ?_
  -- R0.8 4 := resourcem.go:121 alloc
  refine WL.alloc (m := 2) st ty_zero61 rfl rfl rfl ?_
  intro b4 w st
  -- R0.9 None := resourcem.go:121 store
  first | refine WL.storeW (vs := [_, _]) st ty_agg61 rfl rfl rfl rfl rfl rfl ?_ | refine WL.storeL (vs := [_, _]) st ty_agg61 rfl rfl rfl rfl (by first | decide | omega) rfl rfl ?_ | refine WL.storeW (vs := [_, _]) st.front1 ty_agg61 rfl rfl rfl rfl rfl rfl ?_ | refine WL.storeL (vs := [_, _]) st.front1 ty_agg61 rfl rfl rfl rfl (by first | decide | omega) rfl rfl ?_ | refine WL.storeW (vs := [_, _]) st.front2 ty_agg61 rfl rfl rfl rfl rfl rfl ?_ | refine WL.storeL (vs := [_, _]) st.front2 ty_agg61 rfl rfl rfl rfl (by first | decide | omega) rfl rfl ?_ | refine WL.storeW (vs := [_, _]) st.front3 ty_agg61 rfl rfl rfl rfl rfl rfl ?_ | refine WL.storeL (vs := [_, _]) st.front3 ty_agg61 rfl rfl rfl rfl (by first | decide | omega) rfl rfl ?_ | refine WL.storeW (vs := [_, _]) st.front4 ty_agg61 rfl rfl rfl rfl rfl rfl ?_ | refine WL.storeL (vs := [_, _]) st.front4 ty_agg61 rfl rfl rfl rfl (by first | decide | omega) rfl rfl ?_ | refine WL.storeW (vs := [_, _]) st.front5 ty_agg61 rfl rfl rfl rfl rfl rfl ?_ | refine WL.storeL (vs := [_, _]) st.front5 ty_agg61 rfl rfl rfl rfl (by first | decide | omega) rfl rfl ?_ | refine WL.storeW (vs := [_, _]) st.front6 ty_agg61 rfl rfl rfl rfl rfl rfl ?_ | refine WL.storeL (vs := [_, _]) st.front6 ty_agg61 rfl rfl rfl rfl (by first | decide | omega) rfl rfl ?_ | refine WL.storeW (vs := [_, _]) st.front7 ty_agg61 rfl rfl rfl rfl rfl rfl ?_ | refine WL.storeL (vs := [_, _]) st.front7 ty_agg61 rfl rfl rfl rfl (by first | decide | omega) rfl rfl ?_ | refine WL.storeW (vs := [_, _]) st.front8 ty_agg61 rfl rfl rfl rfl rfl rfl ?_ | refine WL.storeL (vs := [_, _]) st.front8 ty_agg61 rfl rfl rfl rfl (by first | decide | omega) rfl rfl ?_
  intro w st
  refine WL.fin hK216 (fun _ _ h => h) ?_
  refine WC.seq fun K217 hK217 => ?_
  -- region 1 (draws)
  refine WC.heldS2 [8, 11, 12] [2, 3, 4, 5, 6, 7] [0, 1, 9, 10] [8, 11, 12] st (st) ty_mixed (by kernel_rfl) fun w st Kq Kq2 hKq hKq2 => ?_
  -- R1.2 15 := resourcem.go:122 move
  refine HL.v (fun w st => by first | exact r_move (v := .pointer _) rfl | exact r_move rfl) rfl rfl rfl ?_
  -- R1.3 16 := resourcem.go:122 move
  refine HL.v (fun w st => by first | exact r_move (v := .int _ _) rfl | exact r_move rfl) rfl rfl rfl ?_
  -- R1.4 17 := resourcem.go:122 nilCheck
  refine HL.v (fun w st => by exact r_nilCheck rfl) rfl rfl rfl ?_
  -- R1.5 18 := resourcem.go:122 fieldAddr
  refine HL.v (fun w st => by exact r_field ty_fld149_1 rfl) rfl rfl rfl ?_
  -- R1.6 19 := resourcem.go:122 indexAddr
  refine HL.v (fun w st => by exact r_indexA ty_ar47 rfl rfl rfl (by omega)) rfl rfl rfl ?_
  -- R1.7 20 := resourcem.go:122 load
  refine HL.v (fun w st => by exact r_load1 (v := qv r) ty_one46 rfl (c_queue (held := held) (qv := qv) st (by simp) hr)) rfl rfl rfl ?_
  refine HL.pure hKq ?_
  -- R1.0 13 := resourcem.go:122 move
  refine HL.v (fun w _ => by first | exact r_move (v := .pointer _) rfl | exact r_move rfl) rfl rfl rfl ?_
  -- R1.1 14 := resourcem.go:122 move
  refine HL.v (fun w _ => by first | exact r_move (v := .int _ _) rfl | exact r_move rfl) rfl rfl rfl ?_
  -- R1.9 22 := resourcem.go:122 nilCheck
  refine HL.v (fun w _ => by exact r_nilCheck rfl) rfl rfl rfl ?_
  -- R1.10 23 := resourcem.go:122 fieldAddr
  refine HL.v (fun w _ => by exact r_field ty_fld149_1 rfl) rfl rfl rfl ?_
  refine HL.fin hKq2 ?_
  refine TL.at ?_
  -- R1.8 21 := resourcem.go:122 call
  refine WL.call (r_call ty_call163 rfl) rfl rfl rfl (del0_ok (X := [(b, Row 61 (c * 2) f)]) ho hlen st.front1) ?_
  rintro _ w ⟨X', ho', st⟩
  obtain ⟨a', c', b', rfl, -, -, -, -⟩ := ho'.form
  have st := st.perm (List.perm_append_comm_assoc X' [_, _] _)
  have st := st.front1
  refine TL.nxt' rfl ?_
  refine TL.at ?_
  -- R1.11 24 := resourcem.go:122 indexAddr
  refine WL.v (by exact r_indexA ty_ar47 rfl rfl rfl (by omega)) rfl rfl rfl ?_
  refine TL.nxt' rfl ?_
  refine TL.at ?_
  -- R1.12 None := resourcem.go:122 store
  first | refine WL.store (v := .slice _ _ _) st ty_one46 rfl rfl rfl (by first | decide | omega) rfl rfl ?_ | refine WL.store (v := _) st ty_one46 rfl rfl rfl (by first | decide | omega) rfl rfl ?_ | refine WL.store (v := .slice _ _ _) st.front1 ty_one46 rfl rfl rfl (by first | decide | omega) rfl rfl ?_ | refine WL.store (v := _) st.front1 ty_one46 rfl rfl rfl (by first | decide | omega) rfl rfl ?_ | refine WL.store (v := .slice _ _ _) st.front2 ty_one46 rfl rfl rfl (by first | decide | omega) rfl rfl ?_ | refine WL.store (v := _) st.front2 ty_one46 rfl rfl rfl (by first | decide | omega) rfl rfl ?_ | refine WL.store (v := .slice _ _ _) st.front3 ty_one46 rfl rfl rfl (by first | decide | omega) rfl rfl ?_ | refine WL.store (v := _) st.front3 ty_one46 rfl rfl rfl (by first | decide | omega) rfl rfl ?_ | refine WL.store (v := .slice _ _ _) st.front4 ty_one46 rfl rfl rfl (by first | decide | omega) rfl rfl ?_ | refine WL.store (v := _) st.front4 ty_one46 rfl rfl rfl (by first | decide | omega) rfl rfl ?_ | refine WL.store (v := .slice _ _ _) st.front5 ty_one46 rfl rfl rfl (by first | decide | omega) rfl rfl ?_ | refine WL.store (v := _) st.front5 ty_one46 rfl rfl rfl (by first | decide | omega) rfl rfl ?_ | refine WL.store (v := .slice _ _ _) st.front6 ty_one46 rfl rfl rfl (by first | decide | omega) rfl rfl ?_ | refine WL.store (v := _) st.front6 ty_one46 rfl rfl rfl (by first | decide | omega) rfl rfl ?_ | refine WL.store (v := .slice _ _ _) st.front7 ty_one46 rfl rfl rfl (by first | decide | omega) rfl rfl ?_ | refine WL.store (v := _) st.front7 ty_one46 rfl rfl rfl (by first | decide | omega) rfl rfl ?_ | refine WL.store (v := .slice _ _ _) st.front8 ty_one46 rfl rfl rfl (by first | decide | omega) rfl rfl ?_ | refine WL.store (v := _) st.front8 ty_one46 rfl rfl rfl (by first | decide | omega) rfl rfl ?_
  intro w st
  refine TL.nxt' rfl ?_
  refine TL.wl ?_
  refine WL.fin hK217 (fun _ _ h => h) ?_
  -- region 2
  refine WC.region ?_
  -- R2.0 25 := resourcem.go:123 move
  refine WL.v (by first | exact r_move (v := .pointer _) rfl | exact r_move rfl) rfl rfl rfl ?_
  -- R2.1 26 := resourcem.go:123 fieldAddr
  refine WL.v (by exact r_field ty_fld61_0 rfl) rfl rfl rfl ?_
  -- R2.2 27 := resourcem.go:123 load
  refine WL.v (by exact r_load1 ty_one31 rfl (by first | assumption | exact st.c0 (by first | decide | omega) | exact st.c1 (by first | decide | omega) | exact st.c2 (by first | decide | omega) | exact st.c3 (by first | decide | omega) | exact st.c4 (by first | decide | omega) | exact st.c5 (by first | decide | omega) | exact st.c6 (by first | decide | omega) | exact st.c7 (by first | decide | omega) | exact st.c8 (by first | decide | omega))) rfl rfl rfl ?_
  -- R2.3 28 := resourcem.go:123 move
  refine WL.v (by first | exact r_move (v := .int _ _) rfl | exact r_move rfl) rfl rfl rfl ?_
  -- R2.4 29 := resourcem.go:123 fieldAddr
  refine WL.v (by exact r_field ty_fld61_1 rfl) rfl rfl rfl ?_
  -- R2.5 30 := resourcem.go:123 load
  refine WL.v (by exact r_load1 ty_one3 rfl (by first | assumption | exact st.c0 (by first | decide | omega) | exact st.c1 (by first | decide | omega) | exact st.c2 (by first | decide | omega) | exact st.c3 (by first | decide | omega) | exact st.c4 (by first | decide | omega) | exact st.c5 (by first | decide | omega) | exact st.c6 (by first | decide | omega) | exact st.c7 (by first | decide | omega) | exact st.c8 (by first | decide | omega))) rfl rfl rfl ?_
  -- R2.6 31 := resourcem.go:123 call
  refine WL.call (r_call ty_call133 rfl) rfl rfl rfl (grant_ok ht hr hh hu (stE (rF_setq hr) st)) ?_
  rintro _ w ⟨rfl, st⟩
  refine WL.end0 Tryz.results141 (fun _ _ h => h) ?_
  exact ⟨_, rfl, rfl, TH.upd hq h2 ho' ((st.drop1).perm (by classical exact List.perm_iff_count.2 fun x => by simp only [List.count_append, List.count_cons, List.count_nil, List.append_eq, List.cons_append, List.nil_append, List.append_assoc, Nat.add_zero, Nat.zero_add] <;> ac_rfl))⟩
end Go.Proofs.Qxb6500834aGreatDoor

