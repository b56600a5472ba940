import Derived.Test.Qxb6500834aGreatDoorK7
set_option linter.unusedVariables false
set_option linter.unusedSimpArgs false
set_option maxRecDepth 20000
namespace Go.Proofs.Qxb6500834aGreatDoor
open Go.RowKit Go.E1 Go.Kern
variable {w0 : World} {L L' l I J K K' X : List HI} {w : World} {M : KM} {s : KS} {XQ : Nat → List HI}
variable {br bp bm mode now armed t r : Nat} {held claim : Nat → Nat → Nat} {qv : Nat → Value} {tk : Nat → TK} {cells : Nat → Nat} {births : Nat} {ov v : Value} {Q : List (Nat × Nat)} {queue : Nat → List (Nat × Nat)}

def withdrawP (queue : Nat → List (Nat × Nat)) (t : Nat) : Nat → List (Nat × Nat) := fun r => (queue r).filter fun q => !(q.1 == t)
theorem wd1_ok {q : Nat × Nat} {b : Nat} (hm : (b, Row 31 1 (nth [.int .i64 (t : Nat)])) ∈ l) (st : S0 w0 l w) :
    Calls Tryz.prog 146 #[.agg #[.int .i64 (q.1 : Nat), .int .i64 (q.2 : Nat)], .pointer (some ⟨b, 0, none⟩)] w (Ret fun u w' => u = .bool (q.1 == t) ∧ S0 w0 l w') := by
  refine enter [.agg #[.int .i64 (q.1 : Nat), .int .i64 (q.2 : Nat)], .pointer (some ⟨b, 0, none⟩)] Tryz.func146 rfl Tryz.ntmps146 rfl ?_
  show WC _ _ _ 8 [] [(0, .agg #[.int .i64 (q.1 : Nat), .int .i64 (q.2 : Nat)]), (1, .pointer (some ⟨b, 0, none⟩))] _
  refine WC.seq fun K218 hK218 => ?_
  -- region 0
  refine WC.region ?_
  -- R0.0 2 := resourcem.go:129 box
  first | refine WL.box (m := 2) (vs := [.int _ _, .int _ _]) st rfl rfl rfl rfl rfl rfl ?_ | refine WL.box (m := 2) (vs := [_, _]) st rfl rfl rfl rfl rfl rfl ?_ | refine WL.box st rfl rfl rfl rfl rfl rfl ?_
  intro b2 w st
  -- R0.1 3 := resourcem.go:129 assign
  refine WL.v (by first | exact r_assign (v := .bool _) rfl | exact r_assign rfl) rfl rfl rfl ?_
  refine WL.fin hK218 (fun _ _ h => h) ?_
  refine WC.seq fun K219 hK219 => ?_
  -- region 1
  refine WC.region ?_
  -- R1.0 4 := resourcem.go:129 fieldAddr
  refine WL.v (by exact r_field ty_fld61_0 rfl) rfl rfl rfl ?_
  -- R1.1 5 := resourcem.go:129 load
  refine WL.v (by exact r_load1 ty_one31 rfl (by first | assumption | exact st.c0 (by first | decide | omega) | exact st.c1 (by first | decide | omega) | exact st.c2 (by first | decide | omega) | exact st.c3 (by first | decide | omega) | exact st.c4 (by first | decide | omega) | exact st.c5 (by first | decide | omega) | exact st.c6 (by first | decide | omega) | exact st.c7 (by first | decide | omega) | exact st.c8 (by first | decide | omega))) rfl rfl rfl ?_
  -- R1.2 6 := resourcem.go:129 load
  refine WL.v (by exact r_load1 (v := .int .i64 (t : Nat)) ty_one31 rfl (st.drop.cell hm (by decide))) rfl rfl rfl ?_
  -- R1.3 7 := resourcem.go:129 binOp
  refine WL.v (by exact r_eql (t := q.1 == t) rfl rfl beqI) rfl rfl rfl ?_
  -- R1.4 3 := resourcem.go:129 assign
  refine WL.v (by first | exact r_assign (v := .bool _) rfl | exact r_assign rfl) rfl rfl rfl ?_
  refine WL.fin hK219 (fun _ _ h => h) ?_
  refine WC.ret1 Tryz.results146 (fun _ _ h => h) rfl ?_
  exact ⟨_, rfl, rfl, st.drop⟩

set_option maxHeartbeats 4000000 in
theorem withdraw_ok (st : TH w0 br held queue l w) :
    Calls Tryz.prog 114 #[.pointer (some ⟨br, 0, none⟩), .int .i64 (t : Nat)] w (Ret fun v w' => v = .tuple #[] ∧ TH w0 br held (withdrawP queue t) l w') := by
  obtain ⟨qv, XQ, hq, st⟩ := st
  refine enter [.pointer (some ⟨br, 0, none⟩), .int .i64 (t : Nat)] Tryz.func114 rfl Tryz.ntmps114 rfl ?_
  show WC _ _ _ 22 [] [(0, .pointer (some ⟨br, 0, none⟩)), (1, .int .i64 (t : Nat))] _
  refine WC.seq fun K220 hK220 => ?_
  -- region 0
  refine WC.region ?_
  -- R0.0 3 := resourcem.go:127 box
  first | refine WL.box (m := 1) (vs := [.int _ _]) st rfl rfl rfl rfl rfl rfl ?_ | refine WL.box (m := 1) (vs := [_]) st rfl rfl rfl rfl rfl rfl ?_ | refine WL.box st rfl rfl rfl rfl rfl rfl ?_
  intro b3 w st
  refine WL.fin hK220 (fun _ _ h => h) ?_
  refine WC.seq fun K221 hK221 => ?_
  -- region 1
  refine WC.region ?_
  -- R1.0 5 := resourcem.go:128 move
  refine WL.v (by first | exact r_move (v := .int _ _) rfl | exact r_move rfl) rfl rfl rfl ?_
  refine WL.fin hK221 (fun _ _ h => h) ?_
  refine WC.block ?_
  have st : S0 w0 (rI br held qv :: (gather 20 XQ ++ ((b3, Row 31 1 (nth [.int .i64 (t : Nat)])) :: l))) w := st.perm (by classical exact List.perm_iff_count.2 fun x => by simp only [List.count_append, List.count_cons, List.count_nil, List.append_eq, List.cons_append, List.nil_append, List.append_assoc, Nat.add_zero, Nat.zero_add] <;> ac_rfl)
  refine WC.loop (ι := Nat) (fun i => [(0, .pointer (some ⟨br, 0, none⟩)), (3, .pointer (some ⟨b3, 0, none⟩)), (5, .int .i64 (i : Nat))])
    (fun i w' => i ≤ 20 ∧ TH w0 br held (fun r => if r < i then withdrawP queue t r else queue r) ((b3, Row 31 1 (nth [.int .i64 (t : Nat)])) :: l) w') (fun i => 20 - i) 0
    ⟨Nat.zero_le _, qv, XQ, fun r hr => hq r hr, st⟩ ?_ ?_
  · skip
    repeat (first | exact sub_nil _ | refine sub_cons rfl rfl ?_)
  clear hq st
  rintro i w ⟨hi, st⟩ K1 hK1
  by_cases h20 : i = 20
  · subst h20
    refine WC.seq fun K222 hK222 => ?_
    -- region 2
    refine WC.region ?_
    -- R2.0 6 := resourcem.go:128 binOp
    refine WL.v (by first | exact r_lss rfl rfl (decide_eq_true (by omega)) | exact r_lss rfl rfl (decide_eq_false (by omega)) | exact r_lss rfl rfl rfl) rfl rfl rfl ?_
    refine WL.fin hK222 (fun _ _ h => h) ?_
    refine WC.seq fun K223 hK223 => ?_
    refine WC.condF rfl rfl ?_
    refine WC.exit0 Tryz.results114 (fun _ _ h => h) ?_
    refine ⟨_, rfl, rfl, ?_⟩
    have st := st.congr (queue' := withdrawP queue t) fun r hr => if_pos hr
    obtain ⟨qv, XQ, hq, st⟩ := st
    exact ⟨qv, XQ, hq, (st.perm (l' := (b3, Row 31 1 (nth [.int .i64 (t : Nat)])) :: (rI br held qv :: (gather 20 XQ ++ l))) (by classical exact List.perm_iff_count.2 fun x => by simp only [List.count_append, List.count_cons, List.count_nil, List.append_eq, List.cons_append, List.nil_append, List.append_assoc, Nat.add_zero, Nat.zero_add] <;> ac_rfl)).drop⟩
  obtain ⟨qv, XQ, hq, st⟩ := st
  have hi' : i < 20 := by omega
  obtain ⟨R, h1, h2⟩ := q_split hi' XQ
  have st := q_in h1 st
  have ho : QL0 (qv i) (queue i) (XQ i) := by have := hq i hi'; simp only [if_neg (Nat.lt_irrefl i)] at this; exact this
  refine WC.seq fun K224 hK224 => ?_
  -- region 2
  refine WC.region ?_
  -- R2.0 6 := resourcem.go:128 binOp
  refine WL.v (by first | exact r_lss rfl rfl (decide_eq_true (by omega)) | exact r_lss rfl rfl (decide_eq_false (by omega)) | exact r_lss rfl rfl rfl) rfl rfl rfl ?_
  refine WL.fin hK224 (fun _ _ h => h) ?_
  refine WC.seq fun K225 hK225 => ?_
  refine WC.condT rfl rfl ?_
  refine WC.skipF hK225 (fun _ _ h => h) ?_
  refine WC.seq fun K226 hK226 => ?_
  refine WC.block ?_
  refine WC.seq fun K227 hK227 => ?_
  -- region 3
  refine WC.region ?_
  -- R3.0 7 := resourcem.go:128 move
  refine WL.v (by first | exact r_move (v := .int _ _) rfl | exact r_move rfl) rfl rfl rfl ?_
  -- R3.1 4 := resourcem.go:128 assign
  refine WL.v (by first | exact r_assign (v := .int _ _) rfl | exact r_assign rfl) rfl rfl rfl ?_
  refine WL.fin hK227 (fun _ _ h => h) ?_
  -- region 4 (draws)
  refine WC.heldS2 [9, 12, 13] [2, 3, 4, 5, 6, 7] [0, 1, 8, 10, 11] [9, 12, 13] st (st) ty_mixed (by kernel_rfl) fun w st Kq Kq2 hKq hKq2 => ?_
  -- R4.2 10 := resourcem.go:129 move
  refine HL.v (fun w st => by first | exact r_move (v := .pointer _) rfl | exact r_move rfl) rfl rfl rfl ?_
  -- R4.3 11 := resourcem.go:129 move
  refine HL.v (fun w st => by first | exact r_move (v := .int _ _) rfl | exact r_move rfl) rfl rfl rfl ?_
  -- R4.4 12 := resourcem.go:129 nilCheck
  refine HL.v (fun w st => by exact r_nilCheck rfl) rfl rfl rfl ?_
  -- R4.5 13 := resourcem.go:129 fieldAddr
  refine HL.v (fun w st => by exact r_field ty_fld149_1 rfl) rfl rfl rfl ?_
  -- R4.6 14 := resourcem.go:129 indexAddr
  refine HL.v (fun w st => by exact r_indexA ty_ar47 rfl rfl rfl (by omega)) rfl rfl rfl ?_
  -- R4.7 15 := resourcem.go:129 load
  refine HL.v (fun w st => by exact r_load1 (v := qv i) ty_one46 rfl (c_queue st mem_rI hi')) rfl rfl rfl ?_
  refine HL.pure hKq ?_
  -- R4.0 8 := resourcem.go:129 move
  refine HL.v (fun w _ => by first | exact r_move (v := .pointer _) rfl | exact r_move rfl) rfl rfl rfl ?_
  -- R4.1 9 := resourcem.go:129 move
  refine HL.v (fun w _ => by first | exact r_move (v := .int _ _) rfl | exact r_move rfl) rfl rfl rfl ?_
  -- R4.8 16 := resourcem.go:129 makeFunc
  refine HL.v (fun w _ => by exact r_mkfn rfl rfl) rfl rfl rfl ?_
  -- R4.10 18 := resourcem.go:129 nilCheck
  refine HL.v (fun w _ => by exact r_nilCheck rfl) rfl rfl rfl ?_
  -- R4.11 19 := resourcem.go:129 fieldAddr
  refine HL.v (fun w _ => by exact r_field ty_fld149_1 rfl) rfl rfl rfl ?_
  refine HL.fin hKq2 ?_
  refine TL.at ?_
  -- R4.9 17 := resourcem.go:129 call
  refine WL.call (r_call ty_call145 rfl) rfl rfl rfl (delFR_ok (p := fun q => q.1 == t) (F := 146) (cap := #[.pointer (some ⟨b3, 0, none⟩)]) ty_call146 ho (fun I q w _ st => wd1_ok (by simp) st) st) ?_
  rintro _ w ⟨X', ho', st⟩
  obtain ⟨a', c', b', rfl, -, -, -, -⟩ := ho'.form
  have st : S0 w0 (rI br held qv :: (X' ++ (R ++ ((b3, Row 31 1 (nth [.int .i64 (t : Nat)])) :: l)))) w := st.perm (by classical exact List.perm_iff_count.2 fun x => by simp only [List.count_append, List.count_cons, List.count_nil, List.append_eq, List.cons_append, List.nil_append, List.append_assoc, Nat.add_zero, Nat.zero_add] <;> ac_rfl)
  refine TL.nxt' rfl ?_
  refine TL.at ?_
  -- R4.12 20 := resourcem.go:129 indexAddr
  refine WL.v (by exact r_indexA ty_ar47 rfl rfl rfl (by omega)) rfl rfl rfl ?_
  refine TL.nxt' rfl ?_
  refine TL.at ?_
  -- R4.13 None := resourcem.go:129 store
  first | refine WL.store (v := .slice _ _ _) st ty_one46 rfl rfl rfl (by first | decide | omega) rfl rfl ?_ | refine WL.store (v := _) st ty_one46 rfl rfl rfl (by first | decide | omega) rfl rfl ?_ | refine WL.store (v := .slice _ _ _) st.front1 ty_one46 rfl rfl rfl (by first | decide | omega) rfl rfl ?_ | refine WL.store (v := _) st.front1 ty_one46 rfl rfl rfl (by first | decide | omega) rfl rfl ?_ | refine WL.store (v := .slice _ _ _) st.front2 ty_one46 rfl rfl rfl (by first | decide | omega) rfl rfl ?_ | refine WL.store (v := _) st.front2 ty_one46 rfl rfl rfl (by first | decide | omega) rfl rfl ?_ | refine WL.store (v := .slice _ _ _) st.front3 ty_one46 rfl rfl rfl (by first | decide | omega) rfl rfl ?_ | refine WL.store (v := _) st.front3 ty_one46 rfl rfl rfl (by first | decide | omega) rfl rfl ?_ | refine WL.store (v := .slice _ _ _) st.front4 ty_one46 rfl rfl rfl (by first | decide | omega) rfl rfl ?_ | refine WL.store (v := _) st.front4 ty_one46 rfl rfl rfl (by first | decide | omega) rfl rfl ?_ | refine WL.store (v := .slice _ _ _) st.front5 ty_one46 rfl rfl rfl (by first | decide | omega) rfl rfl ?_ | refine WL.store (v := _) st.front5 ty_one46 rfl rfl rfl (by first | decide | omega) rfl rfl ?_ | refine WL.store (v := .slice _ _ _) st.front6 ty_one46 rfl rfl rfl (by first | decide | omega) rfl rfl ?_ | refine WL.store (v := _) st.front6 ty_one46 rfl rfl rfl (by first | decide | omega) rfl rfl ?_ | refine WL.store (v := .slice _ _ _) st.front7 ty_one46 rfl rfl rfl (by first | decide | omega) rfl rfl ?_ | refine WL.store (v := _) st.front7 ty_one46 rfl rfl rfl (by first | decide | omega) rfl rfl ?_ | refine WL.store (v := .slice _ _ _) st.front8 ty_one46 rfl rfl rfl (by first | decide | omega) rfl rfl ?_ | refine WL.store (v := _) st.front8 ty_one46 rfl rfl rfl (by first | decide | omega) rfl rfl ?_
  intro w st
  refine TL.nxt' rfl ?_
  refine TL.wl ?_
  refine WL.fin hK226 (fun _ _ h => h) ?_
  -- region 5
  refine WC.region ?_
  -- R5.0 21 := resourcem.go:128 binOp
  refine WL.v (by first | exact r_add rfl rfl (wi64 (by omega) (by omega)) | exact r_add rfl rfl rfl) rfl rfl rfl ?_
  -- R5.1 5 := resourcem.go:128 move
  refine WL.v (by first | exact r_move (v := .int _ _) rfl | exact r_move rfl) rfl rfl rfl ?_
  have hT : TH w0 br held (updN _ i _) ((b3, Row 31 1 (nth [.int .i64 (t : Nat)])) :: l) w := TH.upd hq h2 ho' ((stE (rF_setq hi') st).perm (by classical exact List.perm_iff_count.2 fun x => by simp only [List.count_append, List.count_cons, List.count_nil, List.append_eq, List.cons_append, List.nil_append, List.append_assoc, Nat.add_zero, Nat.zero_add] <;> ac_rfl))
  have hE : ∀ r, r < 20 → updN (fun r => if r < i then withdrawP queue t r else queue r) i (List.filter (fun x => !x.1 == t) (queue i)) r = if r < i + 1 then withdrawP queue t r else queue r := fun r hr => by
    unfold updN
    by_cases hri : r = i
    · rw [if_pos hri, if_pos (by omega), hri]; rfl
    · rw [if_neg hri]
      by_cases h3 : r < i
      · simp only [h3, show r < i + 1 by omega, if_true]
      · simp only [h3, show ¬ r < i + 1 by omega, if_false]
  refine WL.next hK1 (fun _ _ h => h) (i + 1) ⟨hi', hT.congr hE⟩ (by omega) (by repeat (first | exact sub_nil _ | refine sub_cons rfl rfl ?_))

def checkP (held : Nat → Nat → Nat) (t : Nat) (r u : Int) : Int :=
  if r < 0 ∨ 20 ≤ r then 13
  else if 8 ≤ r ∧ u ≠ 1 ∧ u ≠ 16 then 14
  else if 8 ≤ r ∧ 0 < held t r.toNat then 15
  else if u < 1 ∨ (totP r.toNat : Int) < held t r.toNat + u then 14 else 0
set_option maxHeartbeats 4000000 in
theorem check_ok {r u : Int} (ht : t < 16) (hh : ∀ t r, held t r ≤ 16) (hu : -1 ≤ u) (hu2 : u ≤ 16) (hm : rI br held qv ∈ l) (st : S0 w0 l w) :
    Calls Tryz.prog 130 #[.pointer (some ⟨br, 0, none⟩), .int .i64 (t : Nat), .int .i64 r, .int .i64 u] w (Ret fun v w' => v = .int .i64 (checkP held t r u) ∧ S0 w0 l w') := by
  by_cases h1 : r < 0
  · skip
    refine enter [.pointer (some ⟨br, 0, none⟩), .int .i64 (t : Nat), .int .i64 r, .int .i64 u] Tryz.func130 rfl Tryz.ntmps130 rfl ?_
    show WC _ _ _ 49 [] [(0, .pointer (some ⟨br, 0, none⟩)), (1, .int .i64 (t : Nat)), (2, .int .i64 r), (3, .int .i64 u)] _
    refine WC.seq fun K228 hK228 => ?_
    -- region 0
    refine WC.region ?_
    -- R0.0 8 := resourcem.go:24 assign
    refine WL.v (by first | exact r_assign (v := .int _ _) rfl | exact r_assign rfl) rfl rfl rfl ?_
    refine WL.fin hK228 (fun _ _ h => h) ?_
    refine WC.seq fun K229 hK229 => ?_
    refine WC.seq fun K230 hK230 => ?_
    -- region 1
    refine WC.region ?_
    -- R1.0 9 := resourcem.go:25 move
    refine WL.v (by first | exact r_move (v := .int _ _) rfl | exact r_move rfl) rfl rfl rfl ?_
    -- R1.1 10 := resourcem.go:25 binOp
    refine WL.v (by first | exact r_lss rfl rfl (decide_eq_true (by omega)) | exact r_lss rfl rfl (decide_eq_false (by omega)) | exact r_lss rfl rfl rfl) rfl rfl rfl ?_
    -- R1.2 11 := resourcem.go:25 move
    refine WL.v (by first | exact r_move (v := .bool _) rfl | exact r_move rfl) rfl rfl rfl ?_
    -- R1.3 12 := resourcem.go:25 move
    refine WL.no rfl rfl ?_
    -- R1.4 13 := resourcem.go:25 binOp
    refine WL.no rfl rfl ?_
    -- R1.5 14 := resourcem.go:25 pick
    refine WL.v (by first | exact r_pickT (v := .bool _) rfl rfl | exact r_pickF (v := .bool _) rfl rfl) rfl rfl rfl ?_
    refine WL.fin hK230 (fun _ _ h => h) ?_
    refine WC.condT rfl rfl ?_
    refine WC.seq fun K231 hK231 => ?_
    -- region 2
    refine WC.region ?_
    -- R2.0 8 := resourcem.go:26 assign
    refine WL.v (by first | exact r_assign (v := .int _ _) rfl | exact r_assign rfl) rfl rfl rfl ?_
    refine WL.fin hK231 (fun _ _ h => h) ?_
    refine WC.ret1 Tryz.results130 (fun _ _ h => h) rfl ?_
    exact ⟨_, rfl, congrArg (Value.int .i64) (show (13 : Int) = checkP held t r u by unfold checkP; rw [if_pos (.inl h1)]), st⟩
  by_cases h2 : 20 ≤ r
  · skip
    refine enter [.pointer (some ⟨br, 0, none⟩), .int .i64 (t : Nat), .int .i64 r, .int .i64 u] Tryz.func130 rfl Tryz.ntmps130 rfl ?_
    show WC _ _ _ 49 [] [(0, .pointer (some ⟨br, 0, none⟩)), (1, .int .i64 (t : Nat)), (2, .int .i64 r), (3, .int .i64 u)] _
    refine WC.seq fun K232 hK232 => ?_
    -- region 0
    refine WC.region ?_
    -- R0.0 8 := resourcem.go:24 assign
    refine WL.v (by first | exact r_assign (v := .int _ _) rfl | exact r_assign rfl) rfl rfl rfl ?_
    refine WL.fin hK232 (fun _ _ h => h) ?_
    refine WC.seq fun K233 hK233 => ?_
    refine WC.seq fun K234 hK234 => ?_
    -- region 1
    refine WC.region ?_
    -- R1.0 9 := resourcem.go:25 move
    refine WL.v (by first | exact r_move (v := .int _ _) rfl | exact r_move rfl) rfl rfl rfl ?_
    -- R1.1 10 := resourcem.go:25 binOp
    refine WL.v (by first | exact r_lss rfl rfl (decide_eq_true (by omega)) | exact r_lss rfl rfl (decide_eq_false (by omega)) | exact r_lss rfl rfl rfl) rfl rfl rfl ?_
    -- R1.2 11 := resourcem.go:25 move
    refine WL.v (by first | exact r_move (v := .bool _) rfl | exact r_move rfl) rfl rfl rfl ?_
    -- R1.3 12 := resourcem.go:25 move
    refine WL.v (by first | exact r_move (v := .int _ _) rfl | exact r_move rfl) rfl rfl rfl ?_
    -- R1.4 13 := resourcem.go:25 binOp
    refine WL.v (by first | exact r_geq rfl rfl (decide_eq_true (by omega)) | exact r_geq rfl rfl (decide_eq_false (by omega)) | exact r_geq rfl rfl rfl) rfl rfl rfl ?_
    -- R1.5 14 := resourcem.go:25 pick
    refine WL.v (by first | exact r_pickT (v := .bool _) rfl rfl | exact r_pickF (v := .bool _) rfl rfl) rfl rfl rfl ?_
    refine WL.fin hK234 (fun _ _ h => h) ?_
    refine WC.condT rfl rfl ?_
    refine WC.seq fun K235 hK235 => ?_
    -- region 2
    refine WC.region ?_
    -- R2.0 8 := resourcem.go:26 assign
    refine WL.v (by first | exact r_assign (v := .int _ _) rfl | exact r_assign rfl) rfl rfl rfl ?_
    refine WL.fin hK235 (fun _ _ h => h) ?_
    refine WC.ret1 Tryz.results130 (fun _ _ h => h) rfl ?_
    exact ⟨_, rfl, congrArg (Value.int .i64) (show (13 : Int) = checkP held t r u by unfold checkP; rw [if_pos (.inr h2)]), st⟩
  obtain ⟨n, rfl⟩ : ∃ n : Nat, r = n := ⟨r.toNat, by omega⟩
  have hn : n < 20 := by omega
  have eC : checkP held t n u = if 8 ≤ n ∧ u ≠ 1 ∧ u ≠ 16 then 14 else if 8 ≤ n ∧ 0 < held t n then 15 else if u < 1 ∨ (totP n : Int) < held t n + u then 14 else 0 := by
    unfold checkP
    rw [if_neg (by omega), Int.toNat_natCast]
    simp only [show (8 ≤ (n : Int)) ↔ 8 ≤ n by omega]
  have hb := hh t n
  have hT := totP_le n
  by_cases h8 : 8 ≤ n
  · by_cases hu1 : u = 1
    · skip
      by_cases hp : 0 < held t n
      · skip
        refine enter [.pointer (some ⟨br, 0, none⟩), .int .i64 (t : Nat), .int .i64 (n : Nat), .int .i64 u] Tryz.func130 rfl Tryz.ntmps130 rfl ?_
        show WC _ _ _ 49 [] [(0, .pointer (some ⟨br, 0, none⟩)), (1, .int .i64 (t : Nat)), (2, .int .i64 (n : Nat)), (3, .int .i64 u)] _
        refine WC.seq fun K236 hK236 => ?_
        -- region 0
        refine WC.region ?_
        -- R0.0 8 := resourcem.go:24 assign
        refine WL.v (by first | exact r_assign (v := .int _ _) rfl | exact r_assign rfl) rfl rfl rfl ?_
        refine WL.fin hK236 (fun _ _ h => h) ?_
        refine WC.seq fun K237 hK237 => ?_
        refine WC.seq fun K238 hK238 => ?_
        -- region 1
        refine WC.region ?_
        -- R1.0 9 := resourcem.go:25 move
        refine WL.v (by first | exact r_move (v := .int _ _) rfl | exact r_move rfl) rfl rfl rfl ?_
        -- R1.1 10 := resourcem.go:25 binOp
        refine WL.v (by first | exact r_lss rfl rfl (decide_eq_true (by omega)) | exact r_lss rfl rfl (decide_eq_false (by omega)) | exact r_lss rfl rfl rfl) rfl rfl rfl ?_
        -- R1.2 11 := resourcem.go:25 move
        refine WL.v (by first | exact r_move (v := .bool _) rfl | exact r_move rfl) rfl rfl rfl ?_
        -- R1.3 12 := resourcem.go:25 move
        refine WL.v (by first | exact r_move (v := .int _ _) rfl | exact r_move rfl) rfl rfl rfl ?_
        -- R1.4 13 := resourcem.go:25 binOp
        refine WL.v (by first | exact r_geq rfl rfl (decide_eq_true (by omega)) | exact r_geq rfl rfl (decide_eq_false (by omega)) | exact r_geq rfl rfl rfl) rfl rfl rfl ?_
        -- R1.5 14 := resourcem.go:25 pick
        refine WL.v (by first | exact r_pickT (v := .bool _) rfl rfl | exact r_pickF (v := .bool _) rfl rfl) rfl rfl rfl ?_
        refine WL.fin hK238 (fun _ _ h => h) ?_
        refine WC.condF rfl rfl ?_
        refine WC.skipF hK237 (fun _ _ h => h) ?_
        refine WC.seq fun K239 hK239 => ?_
        refine WC.seq fun K240 hK240 => ?_
        -- region 3
        refine WC.region ?_
        -- R3.0 15 := resourcem.go:28 move
        refine WL.v (by first | exact r_move (v := .int _ _) rfl | exact r_move rfl) rfl rfl rfl ?_
        -- R3.1 16 := resourcem.go:28 binOp
        refine WL.v (by exact r_geq (t := true) rfl rfl (decide_eq_true (by omega))) rfl rfl rfl ?_
        refine WL.fin hK240 (fun _ _ h => h) ?_
        refine WC.condT rfl rfl ?_
        refine WC.seq fun K241 hK241 => ?_
        refine WC.seq fun K242 hK242 => ?_
        -- region 4
        refine WC.region ?_
        -- R4.0 17 := resourcem.go:29 move
        refine WL.v (by first | exact r_move (v := .int _ _) rfl | exact r_move rfl) rfl rfl rfl ?_
        -- R4.1 18 := resourcem.go:29 binOp
        refine WL.v (by first | exact r_neq rfl rfl (decide_eq_true (by omega)) | exact r_neq rfl rfl (decide_eq_false (by omega)) | exact r_neq rfl rfl rfl) rfl rfl rfl ?_
        -- R4.2 19 := resourcem.go:29 move
        refine WL.v (by first | exact r_move (v := .bool _) rfl | exact r_move rfl) rfl rfl rfl ?_
        -- R4.3 20 := resourcem.go:29 move
        refine WL.no rfl rfl ?_
        -- R4.4 21 := resourcem.go:29 binOp
        refine WL.no rfl rfl ?_
        -- R4.5 22 := resourcem.go:29 pick
        refine WL.v (by first | exact r_pickT (v := .bool _) rfl rfl | exact r_pickF (v := .bool _) rfl rfl) rfl rfl rfl ?_
        refine WL.fin hK242 (fun _ _ h => h) ?_
        refine WC.condF rfl rfl ?_
        refine WC.skipF hK241 (fun _ _ h => h) ?_
        refine WC.seq fun K243 hK243 => ?_
        -- region 6
        refine WC.region ?_
        -- R6.0 23 := resourcem.go:32 move
        refine WL.v (by first | exact r_move (v := .pointer _) rfl | exact r_move rfl) rfl rfl rfl ?_
        -- R6.1 24 := resourcem.go:32 move
        refine WL.v (by first | exact r_move (v := .int _ _) rfl | exact r_move rfl) rfl rfl rfl ?_
        -- R6.2 25 := resourcem.go:32 move
        refine WL.v (by first | exact r_move (v := .int _ _) rfl | exact r_move rfl) rfl rfl rfl ?_
        -- R6.3 26 := resourcem.go:32 nilCheck
        refine WL.v (by exact r_nilCheck rfl) rfl rfl rfl ?_
        -- R6.4 27 := resourcem.go:32 fieldAddr
        refine WL.v (by exact r_field ty_fld149_0 rfl) rfl rfl rfl ?_
        -- R6.5 28 := resourcem.go:32 indexAddr
        refine WL.v (by exact r_indexA ty_ar45 rfl rfl rfl (by omega)) rfl rfl rfl ?_
        -- R6.6 29 := resourcem.go:32 indexAddr
        refine WL.v (by exact r_indexA (j := n) ty_ar44 rfl rfl rfl hn) rfl rfl rfl ?_
        -- R6.7 30 := resourcem.go:32 load
        refine WL.v (by exact r_load1 (v := .int .i64 (held t n : Nat)) ty_one3 rfl (c_held st hm ht hn)) rfl rfl rfl ?_
        -- R6.8 31 := resourcem.go:32 binOp
        refine WL.v (by exact r_gtr (t := true) rfl rfl (decide_eq_true (by omega))) rfl rfl rfl ?_
        refine WL.fin hK243 (fun _ _ h => h) ?_
        refine WC.condT rfl rfl ?_
        refine WC.seq fun K244 hK244 => ?_
        -- region 7
        refine WC.region ?_
        -- R7.0 8 := resourcem.go:33 assign
        refine WL.v (by first | exact r_assign (v := .int _ _) rfl | exact r_assign rfl) rfl rfl rfl ?_
        refine WL.fin hK244 (fun _ _ h => h) ?_
        refine WC.ret1 Tryz.results130 (fun _ _ h => h) rfl ?_
        exact ⟨_, rfl, congrArg (Value.int .i64) (show (15 : Int) = checkP held t n u by rw [eC, if_neg (by omega), if_pos ⟨h8, hp⟩]), st⟩
      · skip
        refine enter [.pointer (some ⟨br, 0, none⟩), .int .i64 (t : Nat), .int .i64 (n : Nat), .int .i64 u] Tryz.func130 rfl Tryz.ntmps130 rfl ?_
        show WC _ _ _ 49 [] [(0, .pointer (some ⟨br, 0, none⟩)), (1, .int .i64 (t : Nat)), (2, .int .i64 (n : Nat)), (3, .int .i64 u)] _
        refine WC.seq fun K245 hK245 => ?_
        -- region 0
        refine WC.region ?_
        -- R0.0 8 := resourcem.go:24 assign
        refine WL.v (by first | exact r_assign (v := .int _ _) rfl | exact r_assign rfl) rfl rfl rfl ?_
        refine WL.fin hK245 (fun _ _ h => h) ?_
        refine WC.seq fun K246 hK246 => ?_
        refine WC.seq fun K247 hK247 => ?_
        -- region 1
        refine WC.region ?_
        -- R1.0 9 := resourcem.go:25 move
        refine WL.v (by first | exact r_move (v := .int _ _) rfl | exact r_move rfl) rfl rfl rfl ?_
        -- R1.1 10 := resourcem.go:25 binOp
        refine WL.v (by first | exact r_lss rfl rfl (decide_eq_true (by omega)) | exact r_lss rfl rfl (decide_eq_false (by omega)) | exact r_lss rfl rfl rfl) rfl rfl rfl ?_
        -- R1.2 11 := resourcem.go:25 move
        refine WL.v (by first | exact r_move (v := .bool _) rfl | exact r_move rfl) rfl rfl rfl ?_
        -- R1.3 12 := resourcem.go:25 move
        refine WL.v (by first | exact r_move (v := .int _ _) rfl | exact r_move rfl) rfl rfl rfl ?_
        -- R1.4 13 := resourcem.go:25 binOp
        refine WL.v (by first | exact r_geq rfl rfl (decide_eq_true (by omega)) | exact r_geq rfl rfl (decide_eq_false (by omega)) | exact r_geq rfl rfl rfl) rfl rfl rfl ?_
        -- R1.5 14 := resourcem.go:25 pick
        refine WL.v (by first | exact r_pickT (v := .bool _) rfl rfl | exact r_pickF (v := .bool _) rfl rfl) rfl rfl rfl ?_
        refine WL.fin hK247 (fun _ _ h => h) ?_
        refine WC.condF rfl rfl ?_
        refine WC.skipF hK246 (fun _ _ h => h) ?_
        refine WC.seq fun K248 hK248 => ?_
        refine WC.seq fun K249 hK249 => ?_
        -- region 3
        refine WC.region ?_
        -- R3.0 15 := resourcem.go:28 move
        refine WL.v (by first | exact r_move (v := .int _ _) rfl | exact r_move rfl) rfl rfl rfl ?_
        -- R3.1 16 := resourcem.go:28 binOp
        refine WL.v (by exact r_geq (t := true) rfl rfl (decide_eq_true (by omega))) rfl rfl rfl ?_
        refine WL.fin hK249 (fun _ _ h => h) ?_
        refine WC.condT rfl rfl ?_
        refine WC.seq fun K250 hK250 => ?_
        refine WC.seq fun K251 hK251 => ?_
        -- region 4
        refine WC.region ?_
        -- R4.0 17 := resourcem.go:29 move
        refine WL.v (by first | exact r_move (v := .int _ _) rfl | exact r_move rfl) rfl rfl rfl ?_
        -- R4.1 18 := resourcem.go:29 binOp
        refine WL.v (by first | exact r_neq rfl rfl (decide_eq_true (by omega)) | exact r_neq rfl rfl (decide_eq_false (by omega)) | exact r_neq rfl rfl rfl) rfl rfl rfl ?_
        -- R4.2 19 := resourcem.go:29 move
        refine WL.v (by first | exact r_move (v := .bool _) rfl | exact r_move rfl) rfl rfl rfl ?_
        -- R4.3 20 := resourcem.go:29 move
        refine WL.no rfl rfl ?_
        -- R4.4 21 := resourcem.go:29 binOp
        refine WL.no rfl rfl ?_
        -- R4.5 22 := resourcem.go:29 pick
        refine WL.v (by first | exact r_pickT (v := .bool _) rfl rfl | exact r_pickF (v := .bool _) rfl rfl) rfl rfl rfl ?_
        refine WL.fin hK251 (fun _ _ h => h) ?_
        refine WC.condF rfl rfl ?_
        refine WC.skipF hK250 (fun _ _ h => h) ?_
        refine WC.seq fun K252 hK252 => ?_
        -- region 6
        refine WC.region ?_
        -- R6.0 23 := resourcem.go:32 move
        refine WL.v (by first | exact r_move (v := .pointer _) rfl | exact r_move rfl) rfl rfl rfl ?_
        -- R6.1 24 := resourcem.go:32 move
        refine WL.v (by first | exact r_move (v := .int _ _) rfl | exact r_move rfl) rfl rfl rfl ?_
        -- R6.2 25 := resourcem.go:32 move
        refine WL.v (by first | exact r_move (v := .int _ _) rfl | exact r_move rfl) rfl rfl rfl ?_
        -- R6.3 26 := resourcem.go:32 nilCheck
        refine WL.v (by exact r_nilCheck rfl) rfl rfl rfl ?_
        -- R6.4 27 := resourcem.go:32 fieldAddr
        refine WL.v (by exact r_field ty_fld149_0 rfl) rfl rfl rfl ?_
        -- R6.5 28 := resourcem.go:32 indexAddr
        refine WL.v (by exact r_indexA ty_ar45 rfl rfl rfl (by omega)) rfl rfl rfl ?_
        -- R6.6 29 := resourcem.go:32 indexAddr
        refine WL.v (by exact r_indexA (j := n) ty_ar44 rfl rfl rfl hn) rfl rfl rfl ?_
        -- R6.7 30 := resourcem.go:32 load
        refine WL.v (by exact r_load1 (v := .int .i64 (held t n : Nat)) ty_one3 rfl (c_held st hm ht hn)) rfl rfl rfl ?_
        -- R6.8 31 := resourcem.go:32 binOp
        refine WL.v (by exact r_gtr (t := false) rfl rfl (decide_eq_false (by omega))) rfl rfl rfl ?_
        refine WL.fin hK252 (fun _ _ h => h) ?_
        refine WC.condF rfl rfl ?_
        refine WC.skipF hK248 (fun _ _ h => h) ?_
        by_cases h1u : u < 1
        · skip
          refine WC.seq fun K253 hK253 => ?_
          refine WC.seq fun K254 hK254 => ?_
          -- region 8 (draws)
          refine WC.quietS st ty_mixed (by kernel_rfl) fun Kq hKq => ?_
          -- R8.0 32 := resourcem.go:36 move
          refine QL.v (fun w st => by first | exact r_move (v := .int _ _) rfl | exact r_move rfl) rfl rfl rfl ?_
          -- R8.1 33 := resourcem.go:36 binOp
          refine QL.v (fun w st => by first | exact r_lss rfl rfl (decide_eq_true (by omega)) | exact r_lss rfl rfl (decide_eq_false (by omega)) | exact r_lss rfl rfl rfl) rfl rfl rfl ?_
          -- R8.2 34 := resourcem.go:36 move
          refine QL.v (fun w st => by first | exact r_move (v := .bool _) rfl | exact r_move rfl) rfl rfl rfl ?_
          -- R8.3 35 := resourcem.go:36 move
          refine QL.no rfl rfl ?_
          -- R8.4 36 := resourcem.go:36 move
          refine QL.no rfl rfl ?_
          -- R8.5 37 := resourcem.go:36 move
          refine QL.no rfl rfl ?_
          -- R8.6 38 := resourcem.go:36 nilCheck
          refine QL.no rfl rfl ?_
          -- R8.7 39 := resourcem.go:36 fieldAddr
          refine QL.no rfl rfl ?_
          -- R8.8 40 := resourcem.go:36 indexAddr
          refine QL.no rfl rfl ?_
          -- R8.9 41 := resourcem.go:36 indexAddr
          refine QL.no rfl rfl ?_
          -- R8.10 42 := resourcem.go:36 load
          refine QL.no rfl rfl ?_
          -- R8.11 43 := resourcem.go:36 move
          refine QL.no rfl rfl ?_
          -- R8.12 44 := resourcem.go:36 binOp
          refine QL.no rfl rfl ?_
          -- R8.13 45 := resourcem.go:36 move
          refine QL.no rfl rfl ?_
          -- R8.14 46 := resourcem.go:36 call
          refine QL.no rfl rfl ?_
          -- R8.15 47 := resourcem.go:36 binOp
          refine QL.no rfl rfl ?_
          -- R8.16 48 := resourcem.go:36 pick
          refine QL.v (fun w st => by first | exact r_pickT (v := .bool _) rfl rfl | exact r_pickF (v := .bool _) rfl rfl) rfl rfl rfl ?_
          refine QL.wl hKq fun w st => ?_
          refine WL.fin hK254 (fun _ _ h => h) ?_
          refine WC.condT rfl rfl ?_
          refine WC.seq fun K255 hK255 => ?_
          -- region 9
          refine WC.region ?_
          -- R9.0 8 := resourcem.go:37 assign
          refine WL.v (by first | exact r_assign (v := .int _ _) rfl | exact r_assign rfl) rfl rfl rfl ?_
          refine WL.fin hK255 (fun _ _ h => h) ?_
          refine WC.ret1 Tryz.results130 (fun _ _ h => h) rfl ?_
          exact ⟨_, rfl, congrArg (Value.int .i64) (show (14 : Int) = checkP held t n u by rw [eC, if_neg (by omega), if_neg (by omega), if_pos (.inl h1u)]), st⟩
        · skip
          by_cases hs : (totP n : Int) < held t n + u
          · skip
            refine WC.seq fun K256 hK256 => ?_
            refine WC.seq fun K257 hK257 => ?_
            -- region 8 (draws)
            refine WC.quietS st ty_mixed (by kernel_rfl) fun Kq hKq => ?_
            -- R8.0 32 := resourcem.go:36 move
            refine QL.v (fun w st => by first | exact r_move (v := .int _ _) rfl | exact r_move rfl) rfl rfl rfl ?_
            -- R8.1 33 := resourcem.go:36 binOp
            refine QL.v (fun w st => by first | exact r_lss rfl rfl (decide_eq_true (by omega)) | exact r_lss rfl rfl (decide_eq_false (by omega)) | exact r_lss rfl rfl rfl) rfl rfl rfl ?_
            -- R8.2 34 := resourcem.go:36 move
            refine QL.v (fun w st => by first | exact r_move (v := .bool _) rfl | exact r_move rfl) rfl rfl rfl ?_
            -- R8.3 35 := resourcem.go:36 move
            refine QL.v (fun w st => by first | exact r_move (v := .pointer _) rfl | exact r_move rfl) rfl rfl rfl ?_
            -- R8.4 36 := resourcem.go:36 move
            refine QL.v (fun w st => by first | exact r_move (v := .int _ _) rfl | exact r_move rfl) rfl rfl rfl ?_
            -- R8.5 37 := resourcem.go:36 move
            refine QL.v (fun w st => by first | exact r_move (v := .int _ _) rfl | exact r_move rfl) rfl rfl rfl ?_
            -- R8.6 38 := resourcem.go:36 nilCheck
            refine QL.v (fun w st => by exact r_nilCheck rfl) rfl rfl rfl ?_
            -- R8.7 39 := resourcem.go:36 fieldAddr
            refine QL.v (fun w st => by exact r_field ty_fld149_0 rfl) rfl rfl rfl ?_
            -- R8.8 40 := resourcem.go:36 indexAddr
            refine QL.v (fun w st => by exact r_indexA ty_ar45 rfl rfl rfl (by omega)) rfl rfl rfl ?_
            -- R8.9 41 := resourcem.go:36 indexAddr
            refine QL.v (fun w st => by exact r_indexA (j := n) ty_ar44 rfl rfl rfl hn) rfl rfl rfl ?_
            -- R8.10 42 := resourcem.go:36 load
            refine QL.v (fun w st => by exact r_load1 (v := .int .i64 (held t n : Nat)) ty_one3 rfl (c_held st hm ht hn)) rfl rfl rfl ?_
            -- R8.11 43 := resourcem.go:36 move
            refine QL.v (fun w st => by first | exact r_move (v := .int _ _) rfl | exact r_move rfl) rfl rfl rfl ?_
            -- R8.12 44 := resourcem.go:36 binOp
            refine QL.v (fun w st => by first | exact r_add rfl rfl (wi64 (by omega) (by omega)) | exact r_add rfl rfl rfl) rfl rfl rfl ?_
            -- R8.13 45 := resourcem.go:36 move
            refine QL.v (fun w st => by first | exact r_move (v := .int _ _) rfl | exact r_move rfl) rfl rfl rfl ?_
            -- R8.14 46 := resourcem.go:36 call
            refine QL.call (val := .int .i64 (totP n : Nat)) (fun w st => r_call ty_call58 rfl) rfl rfl rfl (fun w st => total_ok st) ?_
            -- R8.15 47 := resourcem.go:36 binOp
            refine QL.v (fun w st => by first | exact r_gtr rfl rfl (decide_eq_true (by omega)) | exact r_gtr rfl rfl (decide_eq_false (by omega)) | exact r_gtr rfl rfl rfl) rfl rfl rfl ?_
            -- R8.16 48 := resourcem.go:36 pick
            refine QL.v (fun w st => by first | exact r_pickT (v := .bool _) rfl rfl | exact r_pickF (v := .bool _) rfl rfl) rfl rfl rfl ?_
            refine QL.wl hKq fun w st => ?_
            refine WL.fin hK257 (fun _ _ h => h) ?_
            refine WC.condT rfl rfl ?_
            refine WC.seq fun K258 hK258 => ?_
            -- region 9
            refine WC.region ?_
            -- R9.0 8 := resourcem.go:37 assign
            refine WL.v (by first | exact r_assign (v := .int _ _) rfl | exact r_assign rfl) rfl rfl rfl ?_
            refine WL.fin hK258 (fun _ _ h => h) ?_
            refine WC.ret1 Tryz.results130 (fun _ _ h => h) rfl ?_
            exact ⟨_, rfl, congrArg (Value.int .i64) (show (14 : Int) = checkP held t n u by rw [eC, if_neg (by omega), if_neg (by omega), if_pos (.inr hs)]), st⟩
          · skip
            refine WC.seq fun K259 hK259 => ?_
            refine WC.seq fun K260 hK260 => ?_
            -- region 8 (draws)
            refine WC.quietS st ty_mixed (by kernel_rfl) fun Kq hKq => ?_
            -- R8.0 32 := resourcem.go:36 move
            refine QL.v (fun w st => by first | exact r_move (v := .int _ _) rfl | exact r_move rfl) rfl rfl rfl ?_
            -- R8.1 33 := resourcem.go:36 binOp
            refine QL.v (fun w st => by first | exact r_lss rfl rfl (decide_eq_true (by omega)) | exact r_lss rfl rfl (decide_eq_false (by omega)) | exact r_lss rfl rfl rfl) rfl rfl rfl ?_
            -- R8.2 34 := resourcem.go:36 move
            refine QL.v (fun w st => by first | exact r_move (v := .bool _) rfl | exact r_move rfl) rfl rfl rfl ?_
            -- R8.3 35 := resourcem.go:36 move
            refine QL.v (fun w st => by first | exact r_move (v := .pointer _) rfl | exact r_move rfl) rfl rfl rfl ?_
            -- R8.4 36 := resourcem.go:36 move
            refine QL.v (fun w st => by first | exact r_move (v := .int _ _) rfl | exact r_move rfl) rfl rfl rfl ?_
            -- R8.5 37 := resourcem.go:36 move
            refine QL.v (fun w st => by first | exact r_move (v := .int _ _) rfl | exact r_move rfl) rfl rfl rfl ?_
            -- R8.6 38 := resourcem.go:36 nilCheck
            refine QL.v (fun w st => by exact r_nilCheck rfl) rfl rfl rfl ?_
            -- R8.7 39 := resourcem.go:36 fieldAddr
            refine QL.v (fun w st => by exact r_field ty_fld149_0 rfl) rfl rfl rfl ?_
            -- R8.8 40 := resourcem.go:36 indexAddr
            refine QL.v (fun w st => by exact r_indexA ty_ar45 rfl rfl rfl (by omega)) rfl rfl rfl ?_
            -- R8.9 41 := resourcem.go:36 indexAddr
            refine QL.v (fun w st => by exact r_indexA (j := n) ty_ar44 rfl rfl rfl hn) rfl rfl rfl ?_
            -- R8.10 42 := resourcem.go:36 load
            refine QL.v (fun w st => by exact r_load1 (v := .int .i64 (held t n : Nat)) ty_one3 rfl (c_held st hm ht hn)) rfl rfl rfl ?_
            -- R8.11 43 := resourcem.go:36 move
            refine QL.v (fun w st => by first | exact r_move (v := .int _ _) rfl | exact r_move rfl) rfl rfl rfl ?_
            -- R8.12 44 := resourcem.go:36 binOp
            refine QL.v (fun w st => by first | exact r_add rfl rfl (wi64 (by omega) (by omega)) | exact r_add rfl rfl rfl) rfl rfl rfl ?_
            -- R8.13 45 := resourcem.go:36 move
            refine QL.v (fun w st => by first | exact r_move (v := .int _ _) rfl | exact r_move rfl) rfl rfl rfl ?_
            -- R8.14 46 := resourcem.go:36 call
            refine QL.call (val := .int .i64 (totP n : Nat)) (fun w st => r_call ty_call58 rfl) rfl rfl rfl (fun w st => total_ok st) ?_
            -- R8.15 47 := resourcem.go:36 binOp
            refine QL.v (fun w st => by first | exact r_gtr rfl rfl (decide_eq_true (by omega)) | exact r_gtr rfl rfl (decide_eq_false (by omega)) | exact r_gtr rfl rfl rfl) rfl rfl rfl ?_
            -- R8.16 48 := resourcem.go:36 pick
            refine QL.v (fun w st => by first | exact r_pickT (v := .bool _) rfl rfl | exact r_pickF (v := .bool _) rfl rfl) rfl rfl rfl ?_
            refine QL.wl hKq fun w st => ?_
            refine WL.fin hK260 (fun _ _ h => h) ?_
            refine WC.condF rfl rfl ?_
            refine WC.skipF hK259 (fun _ _ h => h) ?_
            refine WC.seq fun K261 hK261 => ?_
            -- region 10
            refine WC.region ?_
            -- R10.0 8 := resourcem.go:39 assign
            refine WL.v (by first | exact r_assign (v := .int _ _) rfl | exact r_assign rfl) rfl rfl rfl ?_
            refine WL.fin hK261 (fun _ _ h => h) ?_
            refine WC.ret1 Tryz.results130 (fun _ _ h => h) rfl ?_
            exact ⟨_, rfl, congrArg (Value.int .i64) (show (0 : Int) = checkP held t n u by rw [eC, if_neg (by omega), if_neg (by omega), if_neg (by omega)]), st⟩
    · skip
      by_cases hu16 : u = 16
      · by_cases hp : 0 < held t n
        · skip
          refine enter [.pointer (some ⟨br, 0, none⟩), .int .i64 (t : Nat), .int .i64 (n : Nat), .int .i64 u] Tryz.func130 rfl Tryz.ntmps130 rfl ?_
          show WC _ _ _ 49 [] [(0, .pointer (some ⟨br, 0, none⟩)), (1, .int .i64 (t : Nat)), (2, .int .i64 (n : Nat)), (3, .int .i64 u)] _
          refine WC.seq fun K262 hK262 => ?_
          -- region 0
          refine WC.region ?_
          -- R0.0 8 := resourcem.go:24 assign
          refine WL.v (by first | exact r_assign (v := .int _ _) rfl | exact r_assign rfl) rfl rfl rfl ?_
          refine WL.fin hK262 (fun _ _ h => h) ?_
          refine WC.seq fun K263 hK263 => ?_
          refine WC.seq fun K264 hK264 => ?_
          -- region 1
          refine WC.region ?_
          -- R1.0 9 := resourcem.go:25 move
          refine WL.v (by first | exact r_move (v := .int _ _) rfl | exact r_move rfl) rfl rfl rfl ?_
          -- R1.1 10 := resourcem.go:25 binOp
          refine WL.v (by first | exact r_lss rfl rfl (decide_eq_true (by omega)) | exact r_lss rfl rfl (decide_eq_false (by omega)) | exact r_lss rfl rfl rfl) rfl rfl rfl ?_
          -- R1.2 11 := resourcem.go:25 move
          refine WL.v (by first | exact r_move (v := .bool _) rfl | exact r_move rfl) rfl rfl rfl ?_
          -- R1.3 12 := resourcem.go:25 move
          refine WL.v (by first | exact r_move (v := .int _ _) rfl | exact r_move rfl) rfl rfl rfl ?_
          -- R1.4 13 := resourcem.go:25 binOp
          refine WL.v (by first | exact r_geq rfl rfl (decide_eq_true (by omega)) | exact r_geq rfl rfl (decide_eq_false (by omega)) | exact r_geq rfl rfl rfl) rfl rfl rfl ?_
          -- R1.5 14 := resourcem.go:25 pick
          refine WL.v (by first | exact r_pickT (v := .bool _) rfl rfl | exact r_pickF (v := .bool _) rfl rfl) rfl rfl rfl ?_
          refine WL.fin hK264 (fun _ _ h => h) ?_
          refine WC.condF rfl rfl ?_
          refine WC.skipF hK263 (fun _ _ h => h) ?_
          refine WC.seq fun K265 hK265 => ?_
          refine WC.seq fun K266 hK266 => ?_
          -- region 3
          refine WC.region ?_
          -- R3.0 15 := resourcem.go:28 move
          refine WL.v (by first | exact r_move (v := .int _ _) rfl | exact r_move rfl) rfl rfl rfl ?_
          -- R3.1 16 := resourcem.go:28 binOp
          refine WL.v (by exact r_geq (t := true) rfl rfl (decide_eq_true (by omega))) rfl rfl rfl ?_
          refine WL.fin hK266 (fun _ _ h => h) ?_
          refine WC.condT rfl rfl ?_
          refine WC.seq fun K267 hK267 => ?_
          refine WC.seq fun K268 hK268 => ?_
          -- region 4
          refine WC.region ?_
          -- R4.0 17 := resourcem.go:29 move
          refine WL.v (by first | exact r_move (v := .int _ _) rfl | exact r_move rfl) rfl rfl rfl ?_
          -- R4.1 18 := resourcem.go:29 binOp
          refine WL.v (by first | exact r_neq rfl rfl (decide_eq_true (by omega)) | exact r_neq rfl rfl (decide_eq_false (by omega)) | exact r_neq rfl rfl rfl) rfl rfl rfl ?_
          -- R4.2 19 := resourcem.go:29 move
          refine WL.v (by first | exact r_move (v := .bool _) rfl | exact r_move rfl) rfl rfl rfl ?_
          -- R4.3 20 := resourcem.go:29 move
          refine WL.v (by first | exact r_move (v := .int _ _) rfl | exact r_move rfl) rfl rfl rfl ?_
          -- R4.4 21 := resourcem.go:29 binOp
          refine WL.v (by first | exact r_neq rfl rfl (decide_eq_true (by omega)) | exact r_neq rfl rfl (decide_eq_false (by omega)) | exact r_neq rfl rfl rfl) rfl rfl rfl ?_
          -- R4.5 22 := resourcem.go:29 pick
          refine WL.v (by first | exact r_pickT (v := .bool _) rfl rfl | exact r_pickF (v := .bool _) rfl rfl) rfl rfl rfl ?_
          refine WL.fin hK268 (fun _ _ h => h) ?_
          refine WC.condF rfl rfl ?_
          refine WC.skipF hK267 (fun _ _ h => h) ?_
          refine WC.seq fun K269 hK269 => ?_
          -- region 6
          refine WC.region ?_
          -- R6.0 23 := resourcem.go:32 move
          refine WL.v (by first | exact r_move (v := .pointer _) rfl | exact r_move rfl) rfl rfl rfl ?_
          -- R6.1 24 := resourcem.go:32 move
          refine WL.v (by first | exact r_move (v := .int _ _) rfl | exact r_move rfl) rfl rfl rfl ?_
          -- R6.2 25 := resourcem.go:32 move
          refine WL.v (by first | exact r_move (v := .int _ _) rfl | exact r_move rfl) rfl rfl rfl ?_
          -- R6.3 26 := resourcem.go:32 nilCheck
          refine WL.v (by exact r_nilCheck rfl) rfl rfl rfl ?_
          -- R6.4 27 := resourcem.go:32 fieldAddr
          refine WL.v (by exact r_field ty_fld149_0 rfl) rfl rfl rfl ?_
          -- R6.5 28 := resourcem.go:32 indexAddr
          refine WL.v (by exact r_indexA ty_ar45 rfl rfl rfl (by omega)) rfl rfl rfl ?_
          -- R6.6 29 := resourcem.go:32 indexAddr
          refine WL.v (by exact r_indexA (j := n) ty_ar44 rfl rfl rfl hn) rfl rfl rfl ?_
          -- R6.7 30 := resourcem.go:32 load
          refine WL.v (by exact r_load1 (v := .int .i64 (held t n : Nat)) ty_one3 rfl (c_held st hm ht hn)) rfl rfl rfl ?_
          -- R6.8 31 := resourcem.go:32 binOp
          refine WL.v (by exact r_gtr (t := true) rfl rfl (decide_eq_true (by omega))) rfl rfl rfl ?_
          refine WL.fin hK269 (fun _ _ h => h) ?_
          refine WC.condT rfl rfl ?_
          refine WC.seq fun K270 hK270 => ?_
          -- region 7
          refine WC.region ?_
          -- R7.0 8 := resourcem.go:33 assign
          refine WL.v (by first | exact r_assign (v := .int _ _) rfl | exact r_assign rfl) rfl rfl rfl ?_
          refine WL.fin hK270 (fun _ _ h => h) ?_
          refine WC.ret1 Tryz.results130 (fun _ _ h => h) rfl ?_
          exact ⟨_, rfl, congrArg (Value.int .i64) (show (15 : Int) = checkP held t n u by rw [eC, if_neg (by omega), if_pos ⟨h8, hp⟩]), st⟩
        · skip
          refine enter [.pointer (some ⟨br, 0, none⟩), .int .i64 (t : Nat), .int .i64 (n : Nat), .int .i64 u] Tryz.func130 rfl Tryz.ntmps130 rfl ?_
          show WC _ _ _ 49 [] [(0, .pointer (some ⟨br, 0, none⟩)), (1, .int .i64 (t : Nat)), (2, .int .i64 (n : Nat)), (3, .int .i64 u)] _
          refine WC.seq fun K271 hK271 => ?_
          -- region 0
          refine WC.region ?_
          -- R0.0 8 := resourcem.go:24 assign
          refine WL.v (by first | exact r_assign (v := .int _ _) rfl | exact r_assign rfl) rfl rfl rfl ?_
          refine WL.fin hK271 (fun _ _ h => h) ?_
          refine WC.seq fun K272 hK272 => ?_
          refine WC.seq fun K273 hK273 => ?_
          -- region 1
          refine WC.region ?_
          -- R1.0 9 := resourcem.go:25 move
          refine WL.v (by first | exact r_move (v := .int _ _) rfl | exact r_move rfl) rfl rfl rfl ?_
          -- R1.1 10 := resourcem.go:25 binOp
          refine WL.v (by first | exact r_lss rfl rfl (decide_eq_true (by omega)) | exact r_lss rfl rfl (decide_eq_false (by omega)) | exact r_lss rfl rfl rfl) rfl rfl rfl ?_
          -- R1.2 11 := resourcem.go:25 move
          refine WL.v (by first | exact r_move (v := .bool _) rfl | exact r_move rfl) rfl rfl rfl ?_
          -- R1.3 12 := resourcem.go:25 move
          refine WL.v (by first | exact r_move (v := .int _ _) rfl | exact r_move rfl) rfl rfl rfl ?_
          -- R1.4 13 := resourcem.go:25 binOp
          refine WL.v (by first | exact r_geq rfl rfl (decide_eq_true (by omega)) | exact r_geq rfl rfl (decide_eq_false (by omega)) | exact r_geq rfl rfl rfl) rfl rfl rfl ?_
          -- R1.5 14 := resourcem.go:25 pick
          refine WL.v (by first | exact r_pickT (v := .bool _) rfl rfl | exact r_pickF (v := .bool _) rfl rfl) rfl rfl rfl ?_
          refine WL.fin hK273 (fun _ _ h => h) ?_
          refine WC.condF rfl rfl ?_
          refine WC.skipF hK272 (fun _ _ h => h) ?_
          refine WC.seq fun K274 hK274 => ?_
          refine WC.seq fun K275 hK275 => ?_
          -- region 3
          refine WC.region ?_
          -- R3.0 15 := resourcem.go:28 move
          refine WL.v (by first | exact r_move (v := .int _ _) rfl | exact r_move rfl) rfl rfl rfl ?_
          -- R3.1 16 := resourcem.go:28 binOp
          refine WL.v (by exact r_geq (t := true) rfl rfl (decide_eq_true (by omega))) rfl rfl rfl ?_
          refine WL.fin hK275 (fun _ _ h => h) ?_
          refine WC.condT rfl rfl ?_
          refine WC.seq fun K276 hK276 => ?_
          refine WC.seq fun K277 hK277 => ?_
          -- region 4
          refine WC.region ?_
          -- R4.0 17 := resourcem.go:29 move
          refine WL.v (by first | exact r_move (v := .int _ _) rfl | exact r_move rfl) rfl rfl rfl ?_
          -- R4.1 18 := resourcem.go:29 binOp
          refine WL.v (by first | exact r_neq rfl rfl (decide_eq_true (by omega)) | exact r_neq rfl rfl (decide_eq_false (by omega)) | exact r_neq rfl rfl rfl) rfl rfl rfl ?_
          -- R4.2 19 := resourcem.go:29 move
          refine WL.v (by first | exact r_move (v := .bool _) rfl | exact r_move rfl) rfl rfl rfl ?_
          -- R4.3 20 := resourcem.go:29 move
          refine WL.v (by first | exact r_move (v := .int _ _) rfl | exact r_move rfl) rfl rfl rfl ?_
          -- R4.4 21 := resourcem.go:29 binOp
          refine WL.v (by first | exact r_neq rfl rfl (decide_eq_true (by omega)) | exact r_neq rfl rfl (decide_eq_false (by omega)) | exact r_neq rfl rfl rfl) rfl rfl rfl ?_
          -- R4.5 22 := resourcem.go:29 pick
          refine WL.v (by first | exact r_pickT (v := .bool _) rfl rfl | exact r_pickF (v := .bool _) rfl rfl) rfl rfl rfl ?_
          refine WL.fin hK277 (fun _ _ h => h) ?_
          refine WC.condF rfl rfl ?_
          refine WC.skipF hK276 (fun _ _ h => h) ?_
          refine WC.seq fun K278 hK278 => ?_
          -- region 6
          refine WC.region ?_
          -- R6.0 23 := resourcem.go:32 move
          refine WL.v (by first | exact r_move (v := .pointer _) rfl | exact r_move rfl) rfl rfl rfl ?_
          -- R6.1 24 := resourcem.go:32 move
          refine WL.v (by first | exact r_move (v := .int _ _) rfl | exact r_move rfl) rfl rfl rfl ?_
          -- R6.2 25 := resourcem.go:32 move
          refine WL.v (by first | exact r_move (v := .int _ _) rfl | exact r_move rfl) rfl rfl rfl ?_
          -- R6.3 26 := resourcem.go:32 nilCheck
          refine WL.v (by exact r_nilCheck rfl) rfl rfl rfl ?_
          -- R6.4 27 := resourcem.go:32 fieldAddr
          refine WL.v (by exact r_field ty_fld149_0 rfl) rfl rfl rfl ?_
          -- R6.5 28 := resourcem.go:32 indexAddr
          refine WL.v (by exact r_indexA ty_ar45 rfl rfl rfl (by omega)) rfl rfl rfl ?_
          -- R6.6 29 := resourcem.go:32 indexAddr
          refine WL.v (by exact r_indexA (j := n) ty_ar44 rfl rfl rfl hn) rfl rfl rfl ?_
          -- R6.7 30 := resourcem.go:32 load
          refine WL.v (by exact r_load1 (v := .int .i64 (held t n : Nat)) ty_one3 rfl (c_held st hm ht hn)) rfl rfl rfl ?_
          -- R6.8 31 := resourcem.go:32 binOp
          refine WL.v (by exact r_gtr (t := false) rfl rfl (decide_eq_false (by omega))) rfl rfl rfl ?_
          refine WL.fin hK278 (fun _ _ h => h) ?_
          refine WC.condF rfl rfl ?_
          refine WC.skipF hK274 (fun _ _ h => h) ?_
          by_cases h1u : u < 1
          · skip
            refine WC.seq fun K279 hK279 => ?_
            refine WC.seq fun K280 hK280 => ?_
            -- region 8 (draws)
            refine WC.quietS st ty_mixed (by kernel_rfl) fun Kq hKq => ?_
            -- R8.0 32 := resourcem.go:36 move
            refine QL.v (fun w st => by first | exact r_move (v := .int _ _) rfl | exact r_move rfl) rfl rfl rfl ?_
            -- R8.1 33 := resourcem.go:36 binOp
            refine QL.v (fun w st => by first | exact r_lss rfl rfl (decide_eq_true (by omega)) | exact r_lss rfl rfl (decide_eq_false (by omega)) | exact r_lss rfl rfl rfl) rfl rfl rfl ?_
            -- R8.2 34 := resourcem.go:36 move
            refine QL.v (fun w st => by first | exact r_move (v := .bool _) rfl | exact r_move rfl) rfl rfl rfl ?_
            -- R8.3 35 := resourcem.go:36 move
            refine QL.no rfl rfl ?_
            -- R8.4 36 := resourcem.go:36 move
            refine QL.no rfl rfl ?_
            -- R8.5 37 := resourcem.go:36 move
            refine QL.no rfl rfl ?_
            -- R8.6 38 := resourcem.go:36 nilCheck
            refine QL.no rfl rfl ?_
            -- R8.7 39 := resourcem.go:36 fieldAddr
            refine QL.no rfl rfl ?_
            -- R8.8 40 := resourcem.go:36 indexAddr
            refine QL.no rfl rfl ?_
            -- R8.9 41 := resourcem.go:36 indexAddr
            refine QL.no rfl rfl ?_
            -- R8.10 42 := resourcem.go:36 load
            refine QL.no rfl rfl ?_
            -- R8.11 43 := resourcem.go:36 move
            refine QL.no rfl rfl ?_
            -- R8.12 44 := resourcem.go:36 binOp
            refine QL.no rfl rfl ?_
            -- R8.13 45 := resourcem.go:36 move
            refine QL.no rfl rfl ?_
            -- R8.14 46 := resourcem.go:36 call
            refine QL.no rfl rfl ?_
            -- R8.15 47 := resourcem.go:36 binOp
            refine QL.no rfl rfl ?_
            -- R8.16 48 := resourcem.go:36 pick
            refine QL.v (fun w st => by first | exact r_pickT (v := .bool _) rfl rfl | exact r_pickF (v := .bool _) rfl rfl) rfl rfl rfl ?_
            refine QL.wl hKq fun w st => ?_
            refine WL.fin hK280 (fun _ _ h => h) ?_
            refine WC.condT rfl rfl ?_
            refine WC.seq fun K281 hK281 => ?_
            -- region 9
            refine WC.region ?_
            -- R9.0 8 := resourcem.go:37 assign
            refine WL.v (by first | exact r_assign (v := .int _ _) rfl | exact r_assign rfl) rfl rfl rfl ?_
            refine WL.fin hK281 (fun _ _ h => h) ?_
            refine WC.ret1 Tryz.results130 (fun _ _ h => h) rfl ?_
            exact ⟨_, rfl, congrArg (Value.int .i64) (show (14 : Int) = checkP held t n u by rw [eC, if_neg (by omega), if_neg (by omega), if_pos (.inl h1u)]), st⟩
          · skip
            by_cases hs : (totP n : Int) < held t n + u
            · skip
              refine WC.seq fun K282 hK282 => ?_
              refine WC.seq fun K283 hK283 => ?_
              -- region 8 (draws)
              refine WC.quietS st ty_mixed (by kernel_rfl) fun Kq hKq => ?_
              -- R8.0 32 := resourcem.go:36 move
              refine QL.v (fun w st => by first | exact r_move (v := .int _ _) rfl | exact r_move rfl) rfl rfl rfl ?_
              -- R8.1 33 := resourcem.go:36 binOp
              refine QL.v (fun w st => by first | exact r_lss rfl rfl (decide_eq_true (by omega)) | exact r_lss rfl rfl (decide_eq_false (by omega)) | exact r_lss rfl rfl rfl) rfl rfl rfl ?_
              -- R8.2 34 := resourcem.go:36 move
              refine QL.v (fun w st => by first | exact r_move (v := .bool _) rfl | exact r_move rfl) rfl rfl rfl ?_
              -- R8.3 35 := resourcem.go:36 move
              refine QL.v (fun w st => by first | exact r_move (v := .pointer _) rfl | exact r_move rfl) rfl rfl rfl ?_
              -- R8.4 36 := resourcem.go:36 move
              refine QL.v (fun w st => by first | exact r_move (v := .int _ _) rfl | exact r_move rfl) rfl rfl rfl ?_
              -- R8.5 37 := resourcem.go:36 move
              refine QL.v (fun w st => by first | exact r_move (v := .int _ _) rfl | exact r_move rfl) rfl rfl rfl ?_
              -- R8.6 38 := resourcem.go:36 nilCheck
              refine QL.v (fun w st => by exact r_nilCheck rfl) rfl rfl rfl ?_
              -- R8.7 39 := resourcem.go:36 fieldAddr
              refine QL.v (fun w st => by exact r_field ty_fld149_0 rfl) rfl rfl rfl ?_
              -- R8.8 40 := resourcem.go:36 indexAddr
              refine QL.v (fun w st => by exact r_indexA ty_ar45 rfl rfl rfl (by omega)) rfl rfl rfl ?_
              -- R8.9 41 := resourcem.go:36 indexAddr
              refine QL.v (fun w st => by exact r_indexA (j := n) ty_ar44 rfl rfl rfl hn) rfl rfl rfl ?_
              -- R8.10 42 := resourcem.go:36 load
              refine QL.v (fun w st => by exact r_load1 (v := .int .i64 (held t n : Nat)) ty_one3 rfl (c_held st hm ht hn)) rfl rfl rfl ?_
              -- R8.11 43 := resourcem.go:36 move
              refine QL.v (fun w st => by first | exact r_move (v := .int _ _) rfl | exact r_move rfl) rfl rfl rfl ?_
              -- R8.12 44 := resourcem.go:36 binOp
              refine QL.v (fun w st => by first | exact r_add rfl rfl (wi64 (by omega) (by omega)) | exact r_add rfl rfl rfl) rfl rfl rfl ?_
              -- R8.13 45 := resourcem.go:36 move
              refine QL.v (fun w st => by first | exact r_move (v := .int _ _) rfl | exact r_move rfl) rfl rfl rfl ?_
              -- R8.14 46 := resourcem.go:36 call
              refine QL.call (val := .int .i64 (totP n : Nat)) (fun w st => r_call ty_call58 rfl) rfl rfl rfl (fun w st => total_ok st) ?_
              -- R8.15 47 := resourcem.go:36 binOp
              refine QL.v (fun w st => by first | exact r_gtr rfl rfl (decide_eq_true (by omega)) | exact r_gtr rfl rfl (decide_eq_false (by omega)) | exact r_gtr rfl rfl rfl) rfl rfl rfl ?_
              -- R8.16 48 := resourcem.go:36 pick
              refine QL.v (fun w st => by first | exact r_pickT (v := .bool _) rfl rfl | exact r_pickF (v := .bool _) rfl rfl) rfl rfl rfl ?_
              refine QL.wl hKq fun w st => ?_
              refine WL.fin hK283 (fun _ _ h => h) ?_
              refine WC.condT rfl rfl ?_
              refine WC.seq fun K284 hK284 => ?_
              -- region 9
              refine WC.region ?_
              -- R9.0 8 := resourcem.go:37 assign
              refine WL.v (by first | exact r_assign (v := .int _ _) rfl | exact r_assign rfl) rfl rfl rfl ?_
              refine WL.fin hK284 (fun _ _ h => h) ?_
              refine WC.ret1 Tryz.results130 (fun _ _ h => h) rfl ?_
              exact ⟨_, rfl, congrArg (Value.int .i64) (show (14 : Int) = checkP held t n u by rw [eC, if_neg (by omega), if_neg (by omega), if_pos (.inr hs)]), st⟩
            · skip
              refine WC.seq fun K285 hK285 => ?_
              refine WC.seq fun K286 hK286 => ?_
              -- region 8 (draws)
              refine WC.quietS st ty_mixed (by kernel_rfl) fun Kq hKq => ?_
              -- R8.0 32 := resourcem.go:36 move
              refine QL.v (fun w st => by first | exact r_move (v := .int _ _) rfl | exact r_move rfl) rfl rfl rfl ?_
              -- R8.1 33 := resourcem.go:36 binOp
              refine QL.v (fun w st => by first | exact r_lss rfl rfl (decide_eq_true (by omega)) | exact r_lss rfl rfl (decide_eq_false (by omega)) | exact r_lss rfl rfl rfl) rfl rfl rfl ?_
              -- R8.2 34 := resourcem.go:36 move
              refine QL.v (fun w st => by first | exact r_move (v := .bool _) rfl | exact r_move rfl) rfl rfl rfl ?_
              -- R8.3 35 := resourcem.go:36 move
              refine QL.v (fun w st => by first | exact r_move (v := .pointer _) rfl | exact r_move rfl) rfl rfl rfl ?_
              -- R8.4 36 := resourcem.go:36 move
              refine QL.v (fun w st => by first | exact r_move (v := .int _ _) rfl | exact r_move rfl) rfl rfl rfl ?_
              -- R8.5 37 := resourcem.go:36 move
              refine QL.v (fun w st => by first | exact r_move (v := .int _ _) rfl | exact r_move rfl) rfl rfl rfl ?_
              -- R8.6 38 := resourcem.go:36 nilCheck
              refine QL.v (fun w st => by exact r_nilCheck rfl) rfl rfl rfl ?_
              -- R8.7 39 := resourcem.go:36 fieldAddr
              refine QL.v (fun w st => by exact r_field ty_fld149_0 rfl) rfl rfl rfl ?_
              -- R8.8 40 := resourcem.go:36 indexAddr
              refine QL.v (fun w st => by exact r_indexA ty_ar45 rfl rfl rfl (by omega)) rfl rfl rfl ?_
              -- R8.9 41 := resourcem.go:36 indexAddr
              refine QL.v (fun w st => by exact r_indexA (j := n) ty_ar44 rfl rfl rfl hn) rfl rfl rfl ?_
              -- R8.10 42 := resourcem.go:36 load
              refine QL.v (fun w st => by exact r_load1 (v := .int .i64 (held t n : Nat)) ty_one3 rfl (c_held st hm ht hn)) rfl rfl rfl ?_
              -- R8.11 43 := resourcem.go:36 move
              refine QL.v (fun w st => by first | exact r_move (v := .int _ _) rfl | exact r_move rfl) rfl rfl rfl ?_
              -- R8.12 44 := resourcem.go:36 binOp
              refine QL.v (fun w st => by first | exact r_add rfl rfl (wi64 (by omega) (by omega)) | exact r_add rfl rfl rfl) rfl rfl rfl ?_
              -- R8.13 45 := resourcem.go:36 move
              refine QL.v (fun w st => by first | exact r_move (v := .int _ _) rfl | exact r_move rfl) rfl rfl rfl ?_
              -- R8.14 46 := resourcem.go:36 call
              refine QL.call (val := .int .i64 (totP n : Nat)) (fun w st => r_call ty_call58 rfl) rfl rfl rfl (fun w st => total_ok st) ?_
              -- R8.15 47 := resourcem.go:36 binOp
              refine QL.v (fun w st => by first | exact r_gtr rfl rfl (decide_eq_true (by omega)) | exact r_gtr rfl rfl (decide_eq_false (by omega)) | exact r_gtr rfl rfl rfl) rfl rfl rfl ?_
              -- R8.16 48 := resourcem.go:36 pick
              refine QL.v (fun w st => by first | exact r_pickT (v := .bool _) rfl rfl | exact r_pickF (v := .bool _) rfl rfl) rfl rfl rfl ?_
              refine QL.wl hKq fun w st => ?_
              refine WL.fin hK286 (fun _ _ h => h) ?_
              refine WC.condF rfl rfl ?_
              refine WC.skipF hK285 (fun _ _ h => h) ?_
              refine WC.seq fun K287 hK287 => ?_
              -- region 10
              refine WC.region ?_
              -- R10.0 8 := resourcem.go:39 assign
              refine WL.v (by first | exact r_assign (v := .int _ _) rfl | exact r_assign rfl) rfl rfl rfl ?_
              refine WL.fin hK287 (fun _ _ h => h) ?_
              refine WC.ret1 Tryz.results130 (fun _ _ h => h) rfl ?_
              exact ⟨_, rfl, congrArg (Value.int .i64) (show (0 : Int) = checkP held t n u by rw [eC, if_neg (by omega), if_neg (by omega), if_neg (by omega)]), st⟩
      · skip
        refine enter [.pointer (some ⟨br, 0, none⟩), .int .i64 (t : Nat), .int .i64 (n : Nat), .int .i64 u] Tryz.func130 rfl Tryz.ntmps130 rfl ?_
        show WC _ _ _ 49 [] [(0, .pointer (some ⟨br, 0, none⟩)), (1, .int .i64 (t : Nat)), (2, .int .i64 (n : Nat)), (3, .int .i64 u)] _
        refine WC.seq fun K288 hK288 => ?_
        -- region 0
        refine WC.region ?_
        -- R0.0 8 := resourcem.go:24 assign
        refine WL.v (by first | exact r_assign (v := .int _ _) rfl | exact r_assign rfl) rfl rfl rfl ?_
        refine WL.fin hK288 (fun _ _ h => h) ?_
        refine WC.seq fun K289 hK289 => ?_
        refine WC.seq fun K290 hK290 => ?_
        -- region 1
        refine WC.region ?_
        -- R1.0 9 := resourcem.go:25 move
        refine WL.v (by first | exact r_move (v := .int _ _) rfl | exact r_move rfl) rfl rfl rfl ?_
        -- R1.1 10 := resourcem.go:25 binOp
        refine WL.v (by first | exact r_lss rfl rfl (decide_eq_true (by omega)) | exact r_lss rfl rfl (decide_eq_false (by omega)) | exact r_lss rfl rfl rfl) rfl rfl rfl ?_
        -- R1.2 11 := resourcem.go:25 move
        refine WL.v (by first | exact r_move (v := .bool _) rfl | exact r_move rfl) rfl rfl rfl ?_
        -- R1.3 12 := resourcem.go:25 move
        refine WL.v (by first | exact r_move (v := .int _ _) rfl | exact r_move rfl) rfl rfl rfl ?_
        -- R1.4 13 := resourcem.go:25 binOp
        refine WL.v (by first | exact r_geq rfl rfl (decide_eq_true (by omega)) | exact r_geq rfl rfl (decide_eq_false (by omega)) | exact r_geq rfl rfl rfl) rfl rfl rfl ?_
        -- R1.5 14 := resourcem.go:25 pick
        refine WL.v (by first | exact r_pickT (v := .bool _) rfl rfl | exact r_pickF (v := .bool _) rfl rfl) rfl rfl rfl ?_
        refine WL.fin hK290 (fun _ _ h => h) ?_
        refine WC.condF rfl rfl ?_
        refine WC.skipF hK289 (fun _ _ h => h) ?_
        refine WC.seq fun K291 hK291 => ?_
        refine WC.seq fun K292 hK292 => ?_
        -- region 3
        refine WC.region ?_
        -- R3.0 15 := resourcem.go:28 move
        refine WL.v (by first | exact r_move (v := .int _ _) rfl | exact r_move rfl) rfl rfl rfl ?_
        -- R3.1 16 := resourcem.go:28 binOp
        refine WL.v (by exact r_geq (t := true) rfl rfl (decide_eq_true (by omega))) rfl rfl rfl ?_
        refine WL.fin hK292 (fun _ _ h => h) ?_
        refine WC.condT rfl rfl ?_
        refine WC.seq fun K293 hK293 => ?_
        refine WC.seq fun K294 hK294 => ?_
        -- region 4
        refine WC.region ?_
        -- R4.0 17 := resourcem.go:29 move
        refine WL.v (by first | exact r_move (v := .int _ _) rfl | exact r_move rfl) rfl rfl rfl ?_
        -- R4.1 18 := resourcem.go:29 binOp
        refine WL.v (by first | exact r_neq rfl rfl (decide_eq_true (by omega)) | exact r_neq rfl rfl (decide_eq_false (by omega)) | exact r_neq rfl rfl rfl) rfl rfl rfl ?_
        -- R4.2 19 := resourcem.go:29 move
        refine WL.v (by first | exact r_move (v := .bool _) rfl | exact r_move rfl) rfl rfl rfl ?_
        -- R4.3 20 := resourcem.go:29 move
        refine WL.v (by first | exact r_move (v := .int _ _) rfl | exact r_move rfl) rfl rfl rfl ?_
        -- R4.4 21 := resourcem.go:29 binOp
        refine WL.v (by first | exact r_neq rfl rfl (decide_eq_true (by omega)) | exact r_neq rfl rfl (decide_eq_false (by omega)) | exact r_neq rfl rfl rfl) rfl rfl rfl ?_
        -- R4.5 22 := resourcem.go:29 pick
        refine WL.v (by first | exact r_pickT (v := .bool _) rfl rfl | exact r_pickF (v := .bool _) rfl rfl) rfl rfl rfl ?_
        refine WL.fin hK294 (fun _ _ h => h) ?_
        refine WC.condT rfl rfl ?_
        refine WC.seq fun K295 hK295 => ?_
        -- region 5
        refine WC.region ?_
        -- R5.0 8 := resourcem.go:30 assign
        refine WL.v (by first | exact r_assign (v := .int _ _) rfl | exact r_assign rfl) rfl rfl rfl ?_
        refine WL.fin hK295 (fun _ _ h => h) ?_
        refine WC.ret1 Tryz.results130 (fun _ _ h => h) rfl ?_
        exact ⟨_, rfl, congrArg (Value.int .i64) (show (14 : Int) = checkP held t n u by rw [eC, if_pos ⟨h8, hu1, hu16⟩]), st⟩
  · skip
    refine enter [.pointer (some ⟨br, 0, none⟩), .int .i64 (t : Nat), .int .i64 (n : Nat), .int .i64 u] Tryz.func130 rfl Tryz.ntmps130 rfl ?_
    show WC _ _ _ 49 [] [(0, .pointer (some ⟨br, 0, none⟩)), (1, .int .i64 (t : Nat)), (2, .int .i64 (n : Nat)), (3, .int .i64 u)] _
    refine WC.seq fun K296 hK296 => ?_
    -- region 0
    refine WC.region ?_
    -- R0.0 8 := resourcem.go:24 assign
    refine WL.v (by first | exact r_assign (v := .int _ _) rfl | exact r_assign rfl) rfl rfl rfl ?_
    refine WL.fin hK296 (fun _ _ h => h) ?_
    refine WC.seq fun K297 hK297 => ?_
    refine WC.seq fun K298 hK298 => ?_
    -- region 1
    refine WC.region ?_
    -- R1.0 9 := resourcem.go:25 move
    refine WL.v (by first | exact r_move (v := .int _ _) rfl | exact r_move rfl) rfl rfl rfl ?_
    -- R1.1 10 := resourcem.go:25 binOp
    refine WL.v (by first | exact r_lss rfl rfl (decide_eq_true (by omega)) | exact r_lss rfl rfl (decide_eq_false (by omega)) | exact r_lss rfl rfl rfl) rfl rfl rfl ?_
    -- R1.2 11 := resourcem.go:25 move
    refine WL.v (by first | exact r_move (v := .bool _) rfl | exact r_move rfl) rfl rfl rfl ?_
    -- R1.3 12 := resourcem.go:25 move
    refine WL.v (by first | exact r_move (v := .int _ _) rfl | exact r_move rfl) rfl rfl rfl ?_
    -- R1.4 13 := resourcem.go:25 binOp
    refine WL.v (by first | exact r_geq rfl rfl (decide_eq_true (by omega)) | exact r_geq rfl rfl (decide_eq_false (by omega)) | exact r_geq rfl rfl rfl) rfl rfl rfl ?_
    -- R1.5 14 := resourcem.go:25 pick
    refine WL.v (by first | exact r_pickT (v := .bool _) rfl rfl | exact r_pickF (v := .bool _) rfl rfl) rfl rfl rfl ?_
    refine WL.fin hK298 (fun _ _ h => h) ?_
    refine WC.condF rfl rfl ?_
    refine WC.skipF hK297 (fun _ _ h => h) ?_
    refine WC.seq fun K299 hK299 => ?_
    refine WC.seq fun K300 hK300 => ?_
    -- region 3
    refine WC.region ?_
    -- R3.0 15 := resourcem.go:28 move
    refine WL.v (by first | exact r_move (v := .int _ _) rfl | exact r_move rfl) rfl rfl rfl ?_
    -- R3.1 16 := resourcem.go:28 binOp
    refine WL.v (by exact r_geq (t := false) rfl rfl (decide_eq_false (by omega))) rfl rfl rfl ?_
    refine WL.fin hK300 (fun _ _ h => h) ?_
    refine WC.condF rfl rfl ?_
    refine WC.skipF hK299 (fun _ _ h => h) ?_
    by_cases h1u : u < 1
    · skip
      refine WC.seq fun K301 hK301 => ?_
      refine WC.seq fun K302 hK302 => ?_
      -- region 8 (draws)
      refine WC.quietS st ty_mixed (by kernel_rfl) fun Kq hKq => ?_
      -- R8.0 32 := resourcem.go:36 move
      refine QL.v (fun w st => by first | exact r_move (v := .int _ _) rfl | exact r_move rfl) rfl rfl rfl ?_
      -- R8.1 33 := resourcem.go:36 binOp
      refine QL.v (fun w st => by first | exact r_lss rfl rfl (decide_eq_true (by omega)) | exact r_lss rfl rfl (decide_eq_false (by omega)) | exact r_lss rfl rfl rfl) rfl rfl rfl ?_
      -- R8.2 34 := resourcem.go:36 move
      refine QL.v (fun w st => by first | exact r_move (v := .bool _) rfl | exact r_move rfl) rfl rfl rfl ?_
      -- R8.3 35 := resourcem.go:36 move
      refine QL.no rfl rfl ?_
      -- R8.4 36 := resourcem.go:36 move
      refine QL.no rfl rfl ?_
      -- R8.5 37 := resourcem.go:36 move
      refine QL.no rfl rfl ?_
      -- R8.6 38 := resourcem.go:36 nilCheck
      refine QL.no rfl rfl ?_
      -- R8.7 39 := resourcem.go:36 fieldAddr
      refine QL.no rfl rfl ?_
      -- R8.8 40 := resourcem.go:36 indexAddr
      refine QL.no rfl rfl ?_
      -- R8.9 41 := resourcem.go:36 indexAddr
      refine QL.no rfl rfl ?_
      -- R8.10 42 := resourcem.go:36 load
      refine QL.no rfl rfl ?_
      -- R8.11 43 := resourcem.go:36 move
      refine QL.no rfl rfl ?_
      -- R8.12 44 := resourcem.go:36 binOp
      refine QL.no rfl rfl ?_
      -- R8.13 45 := resourcem.go:36 move
      refine QL.no rfl rfl ?_
      -- R8.14 46 := resourcem.go:36 call
      refine QL.no rfl rfl ?_
      -- R8.15 47 := resourcem.go:36 binOp
      refine QL.no rfl rfl ?_
      -- R8.16 48 := resourcem.go:36 pick
      refine QL.v (fun w st => by first | exact r_pickT (v := .bool _) rfl rfl | exact r_pickF (v := .bool _) rfl rfl) rfl rfl rfl ?_
      refine QL.wl hKq fun w st => ?_
      refine WL.fin hK302 (fun _ _ h => h) ?_
      refine WC.condT rfl rfl ?_
      refine WC.seq fun K303 hK303 => ?_
      -- region 9
      refine WC.region ?_
      -- R9.0 8 := resourcem.go:37 assign
      refine WL.v (by first | exact r_assign (v := .int _ _) rfl | exact r_assign rfl) rfl rfl rfl ?_
      refine WL.fin hK303 (fun _ _ h => h) ?_
      refine WC.ret1 Tryz.results130 (fun _ _ h => h) rfl ?_
      exact ⟨_, rfl, congrArg (Value.int .i64) (show (14 : Int) = checkP held t n u by rw [eC, if_neg (by omega), if_neg (by omega), if_pos (.inl h1u)]), st⟩
    · skip
      by_cases hs : (totP n : Int) < held t n + u
      · skip
        refine WC.seq fun K304 hK304 => ?_
        refine WC.seq fun K305 hK305 => ?_
        -- region 8 (draws)
        refine WC.quietS st ty_mixed (by kernel_rfl) fun Kq hKq => ?_
        -- R8.0 32 := resourcem.go:36 move
        refine QL.v (fun w st => by first | exact r_move (v := .int _ _) rfl | exact r_move rfl) rfl rfl rfl ?_
        -- R8.1 33 := resourcem.go:36 binOp
        refine QL.v (fun w st => by first | exact r_lss rfl rfl (decide_eq_true (by omega)) | exact r_lss rfl rfl (decide_eq_false (by omega)) | exact r_lss rfl rfl rfl) rfl rfl rfl ?_
        -- R8.2 34 := resourcem.go:36 move
        refine QL.v (fun w st => by first | exact r_move (v := .bool _) rfl | exact r_move rfl) rfl rfl rfl ?_
        -- R8.3 35 := resourcem.go:36 move
        refine QL.v (fun w st => by first | exact r_move (v := .pointer _) rfl | exact r_move rfl) rfl rfl rfl ?_
        -- R8.4 36 := resourcem.go:36 move
        refine QL.v (fun w st => by first | exact r_move (v := .int _ _) rfl | exact r_move rfl) rfl rfl rfl ?_
        -- R8.5 37 := resourcem.go:36 move
        refine QL.v (fun w st => by first | exact r_move (v := .int _ _) rfl | exact r_move rfl) rfl rfl rfl ?_
        -- R8.6 38 := resourcem.go:36 nilCheck
        refine QL.v (fun w st => by exact r_nilCheck rfl) rfl rfl rfl ?_
        -- R8.7 39 := resourcem.go:36 fieldAddr
        refine QL.v (fun w st => by exact r_field ty_fld149_0 rfl) rfl rfl rfl ?_
        -- R8.8 40 := resourcem.go:36 indexAddr
        refine QL.v (fun w st => by exact r_indexA ty_ar45 rfl rfl rfl (by omega)) rfl rfl rfl ?_
        -- R8.9 41 := resourcem.go:36 indexAddr
        refine QL.v (fun w st => by exact r_indexA (j := n) ty_ar44 rfl rfl rfl hn) rfl rfl rfl ?_
        -- R8.10 42 := resourcem.go:36 load
        refine QL.v (fun w st => by exact r_load1 (v := .int .i64 (held t n : Nat)) ty_one3 rfl (c_held st hm ht hn)) rfl rfl rfl ?_
        -- R8.11 43 := resourcem.go:36 move
        refine QL.v (fun w st => by first | exact r_move (v := .int _ _) rfl | exact r_move rfl) rfl rfl rfl ?_
        -- R8.12 44 := resourcem.go:36 binOp
        refine QL.v (fun w st => by first | exact r_add rfl rfl (wi64 (by omega) (by omega)) | exact r_add rfl rfl rfl) rfl rfl rfl ?_
        -- R8.13 45 := resourcem.go:36 move
        refine QL.v (fun w st => by first | exact r_move (v := .int _ _) rfl | exact r_move rfl) rfl rfl rfl ?_
        -- R8.14 46 := resourcem.go:36 call
        refine QL.call (val := .int .i64 (totP n : Nat)) (fun w st => r_call ty_call58 rfl) rfl rfl rfl (fun w st => total_ok st) ?_
        -- R8.15 47 := resourcem.go:36 binOp
        refine QL.v (fun w st => by first | exact r_gtr rfl rfl (decide_eq_true (by omega)) | exact r_gtr rfl rfl (decide_eq_false (by omega)) | exact r_gtr rfl rfl rfl) rfl rfl rfl ?_
        -- R8.16 48 := resourcem.go:36 pick
        refine QL.v (fun w st => by first | exact r_pickT (v := .bool _) rfl rfl | exact r_pickF (v := .bool _) rfl rfl) rfl rfl rfl ?_
        refine QL.wl hKq fun w st => ?_
        refine WL.fin hK305 (fun _ _ h => h) ?_
        refine WC.condT rfl rfl ?_
        refine WC.seq fun K306 hK306 => ?_
        -- region 9
        refine WC.region ?_
        -- R9.0 8 := resourcem.go:37 assign
        refine WL.v (by first | exact r_assign (v := .int _ _) rfl | exact r_assign rfl) rfl rfl rfl ?_
        refine WL.fin hK306 (fun _ _ h => h) ?_
        refine WC.ret1 Tryz.results130 (fun _ _ h => h) rfl ?_
        exact ⟨_, rfl, congrArg (Value.int .i64) (show (14 : Int) = checkP held t n u by rw [eC, if_neg (by omega), if_neg (by omega), if_pos (.inr hs)]), st⟩
      · skip
        refine WC.seq fun K307 hK307 => ?_
        refine WC.seq fun K308 hK308 => ?_
        -- region 8 (draws)
        refine WC.quietS st ty_mixed (by kernel_rfl) fun Kq hKq => ?_
        -- R8.0 32 := resourcem.go:36 move
        refine QL.v (fun w st => by first | exact r_move (v := .int _ _) rfl | exact r_move rfl) rfl rfl rfl ?_
        -- R8.1 33 := resourcem.go:36 binOp
        refine QL.v (fun w st => by first | exact r_lss rfl rfl (decide_eq_true (by omega)) | exact r_lss rfl rfl (decide_eq_false (by omega)) | exact r_lss rfl rfl rfl) rfl rfl rfl ?_
        -- R8.2 34 := resourcem.go:36 move
        refine QL.v (fun w st => by first | exact r_move (v := .bool _) rfl | exact r_move rfl) rfl rfl rfl ?_
        -- R8.3 35 := resourcem.go:36 move
        refine QL.v (fun w st => by first | exact r_move (v := .pointer _) rfl | exact r_move rfl) rfl rfl rfl ?_
        -- R8.4 36 := resourcem.go:36 move
        refine QL.v (fun w st => by first | exact r_move (v := .int _ _) rfl | exact r_move rfl) rfl rfl rfl ?_
        -- R8.5 37 := resourcem.go:36 move
        refine QL.v (fun w st => by first | exact r_move (v := .int _ _) rfl | exact r_move rfl) rfl rfl rfl ?_
        -- R8.6 38 := resourcem.go:36 nilCheck
        refine QL.v (fun w st => by exact r_nilCheck rfl) rfl rfl rfl ?_
        -- R8.7 39 := resourcem.go:36 fieldAddr
        refine QL.v (fun w st => by exact r_field ty_fld149_0 rfl) rfl rfl rfl ?_
        -- R8.8 40 := resourcem.go:36 indexAddr
        refine QL.v (fun w st => by exact r_indexA ty_ar45 rfl rfl rfl (by omega)) rfl rfl rfl ?_
        -- R8.9 41 := resourcem.go:36 indexAddr
        refine QL.v (fun w st => by exact r_indexA (j := n) ty_ar44 rfl rfl rfl hn) rfl rfl rfl ?_
        -- R8.10 42 := resourcem.go:36 load
        refine QL.v (fun w st => by exact r_load1 (v := .int .i64 (held t n : Nat)) ty_one3 rfl (c_held st hm ht hn)) rfl rfl rfl ?_
        -- R8.11 43 := resourcem.go:36 move
        refine QL.v (fun w st => by first | exact r_move (v := .int _ _) rfl | exact r_move rfl) rfl rfl rfl ?_
        -- R8.12 44 := resourcem.go:36 binOp
        refine QL.v (fun w st => by first | exact r_add rfl rfl (wi64 (by omega) (by omega)) | exact r_add rfl rfl rfl) rfl rfl rfl ?_
        -- R8.13 45 := resourcem.go:36 move
        refine QL.v (fun w st => by first | exact r_move (v := .int _ _) rfl | exact r_move rfl) rfl rfl rfl ?_
        -- R8.14 46 := resourcem.go:36 call
        refine QL.call (val := .int .i64 (totP n : Nat)) (fun w st => r_call ty_call58 rfl) rfl rfl rfl (fun w st => total_ok st) ?_
        -- R8.15 47 := resourcem.go:36 binOp
        refine QL.v (fun w st => by first | exact r_gtr rfl rfl (decide_eq_true (by omega)) | exact r_gtr rfl rfl (decide_eq_false (by omega)) | exact r_gtr rfl rfl rfl) rfl rfl rfl ?_
        -- R8.16 48 := resourcem.go:36 pick
        refine QL.v (fun w st => by first | exact r_pickT (v := .bool _) rfl rfl | exact r_pickF (v := .bool _) rfl rfl) rfl rfl rfl ?_
        refine QL.wl hKq fun w st => ?_
        refine WL.fin hK308 (fun _ _ h => h) ?_
        refine WC.condF rfl rfl ?_
        refine WC.skipF hK307 (fun _ _ h => h) ?_
        refine WC.seq fun K309 hK309 => ?_
        -- region 10
        refine WC.region ?_
        -- R10.0 8 := resourcem.go:39 assign
        refine WL.v (by first | exact r_assign (v := .int _ _) rfl | exact r_assign rfl) rfl rfl rfl ?_
        refine WL.fin hK309 (fun _ _ h => h) ?_
        refine WC.ret1 Tryz.results130 (fun _ _ h => h) rfl ?_
        exact ⟨_, rfl, congrArg (Value.int .i64) (show (0 : Int) = checkP held t n u by rw [eC, if_neg (by omega), if_neg (by omega), if_neg (by omega)]), st⟩
end Go.Proofs.Qxb6500834aGreatDoor

