import Derived.Test.Qxb6500834aGreatDoorK9
set_option linter.unusedVariables false
set_option linter.unusedSimpArgs false
set_option maxRecDepth 20000
namespace Go.Proofs.Qxb6500834aGreatDoor
open Go.RowKit Go.E1 Go.Kern
variable {w0 : World} {L L' l I J K K' X : List HI} {w : World} {M : KM} {s : KS} {XQ : Nat → List HI}
variable {br bp bm mode now armed t r : Nat} {held claim : Nat → Nat → Nat} {qv : Nat → Value} {tk : Nat → TK} {cells : Nat → Nat} {births : Nat} {ov v : Value} {Q : List (Nat × Nat)} {queue : Nat → List (Nat × Nat)}

def waitF (queue : Nat → List (Nat × Nat)) (t : Nat) : Nat → Nat → Option (Nat × Nat × Nat)
  | 0, _ => none
  | n + 1, r => match (queue r).find? (fun q => q.1 == t) with
    | some q => some (r, q)
    | none => waitF queue t n (r + 1)
def waitP (queue : Nat → List (Nat × Nat)) (t : Nat) : Option (Nat × Nat × Nat) := waitF queue t 20 0
def waitV : Option (Nat × Nat × Nat) → Value
  | some p => .tuple #[.int .i64 (p.1 : Nat), .agg #[.int .i64 (p.2.1 : Nat), .int .i64 (p.2.2 : Nat)], .bool true]
  | none => .tuple #[.int .i64 0, .agg #[.int .i64 0, .int .i64 0], .bool false]
set_option maxHeartbeats 4000000 in
theorem waitingOn_ok (hm : rI br held qv ∈ l) (hq : ∀ r, r < 20 → QL0 (qv r) (queue r) (XQ r)) (hX : ∀ r, r < 20 → XQ r ⊆ l) (st : S0 w0 l w) :
    Calls Tryz.prog 167 #[.pointer (some ⟨br, 0, none⟩), .int .i64 (t : Nat)] w (Ret fun v w' => v = waitV (waitP queue t) ∧ S0 w0 l w') := by
  refine enter [.pointer (some ⟨br, 0, none⟩), .int .i64 (t : Nat)] Tryz.func167 rfl Tryz.ntmps167 rfl ?_
  show WC _ _ _ 33 [] [(0, .pointer (some ⟨br, 0, none⟩)), (1, .int .i64 (t : Nat))] _
  refine WC.seq fun K349 hK349 => ?_
  -- region 0
  refine WC.region ?_
  -- R0.0 4 := resourcem.go:92 assign
  refine WL.v (by first | exact r_assign (v := .int _ _) rfl | exact r_assign rfl) rfl rfl rfl ?_
  -- R0.1 5 := resourcem.go:92 alloc
  refine WL.alloc (m := 2) st ty_zero61 rfl rfl rfl ?_
  intro b5 w st
  -- R0.2 6 := resourcem.go:92 assign
  refine WL.v (by first | exact r_assign (v := .bool _) rfl | exact r_assign rfl) rfl rfl rfl ?_
  refine WL.fin hK349 (fun _ _ h => h) ?_
  refine WC.seq fun K350 hK350 => ?_
  refine WC.seq fun K351 hK351 => ?_
  -- region 1
  refine WC.region ?_
  -- R1.0 10 := resourcem.go:93 move
  refine WL.v (by first | exact r_move (v := .int _ _) rfl | exact r_move rfl) rfl rfl rfl ?_
  refine WL.fin hK351 (fun _ _ h => h) ?_
  refine WC.block ?_
  refine WC.loop (ι := Nat) (fun i => [(0, .pointer (some ⟨br, 0, none⟩)), (1, .int .i64 (t : Nat)), (4, .int .i64 0), (5, .pointer (some ⟨b5, 0, none⟩)), (6, .bool false), (10, .int .i64 (i : Nat))])
    (fun i w' => i ≤ 20 ∧ waitP queue t = waitF queue t (20 - i) i ∧ S0 w0 ((b5, Row 61 2 (nth [.int .i64 0, .int .i64 0])) :: l) w') (fun i => 20 - i) 0 ⟨Nat.zero_le _, rfl, st⟩ ?_ ?_
  · skip
    repeat (first | exact sub_nil _ | refine sub_cons rfl rfl ?_)
  rintro i w ⟨hi, hw, st⟩ K1 hK1
  by_cases h20 : i = 20
  · subst h20
    refine WC.seq fun K352 hK352 => ?_
    -- region 2
    refine WC.region ?_
    -- R2.0 11 := resourcem.go:93 binOp
    refine WL.v (by first | exact r_lss rfl rfl (decide_eq_true (by omega)) | exact r_lss rfl rfl (decide_eq_false (by omega)) | exact r_lss rfl rfl rfl) rfl rfl rfl ?_
    refine WL.fin hK352 (fun _ _ h => h) ?_
    refine WC.seq fun K353 hK353 => ?_
    refine WC.condF rfl rfl ?_
    refine WC.exitF hK350 (fun _ _ h => h) ?_
    refine WC.seq fun K354 hK354 => ?_
    -- region 11
    refine WC.region ?_
    -- R11.0 32 := resourcem.go:100 build
    refine WL.v (by exact r_build (ps := []) (vs := [_, _]) ty_pl61 ty_zero61 rfl (fill_nil)) rfl rfl rfl ?_
    -- R11.1 4 := resourcem.go:100 assign
    refine WL.v (by first | exact r_assign (v := .int _ _) rfl | exact r_assign rfl) rfl rfl rfl ?_
    -- R11.2 None := resourcem.go:100 store
    first | refine WL.storeW (vs := [_, _]) st ty_agg61 rfl rfl rfl rfl rfl rfl ?_ | refine WL.storeL (vs := [_, _]) st ty_agg61 rfl rfl rfl rfl (by first | decide | omega) rfl rfl ?_ | refine WL.storeW (vs := [_, _]) st.front1 ty_agg61 rfl rfl rfl rfl rfl rfl ?_ | refine WL.storeL (vs := [_, _]) st.front1 ty_agg61 rfl rfl rfl rfl (by first | decide | omega) rfl rfl ?_ | refine WL.storeW (vs := [_, _]) st.front2 ty_agg61 rfl rfl rfl rfl rfl rfl ?_ | refine WL.storeL (vs := [_, _]) st.front2 ty_agg61 rfl rfl rfl rfl (by first | decide | omega) rfl rfl ?_ | refine WL.storeW (vs := [_, _]) st.front3 ty_agg61 rfl rfl rfl rfl rfl rfl ?_ | refine WL.storeL (vs := [_, _]) st.front3 ty_agg61 rfl rfl rfl rfl (by first | decide | omega) rfl rfl ?_ | refine WL.storeW (vs := [_, _]) st.front4 ty_agg61 rfl rfl rfl rfl rfl rfl ?_ | refine WL.storeL (vs := [_, _]) st.front4 ty_agg61 rfl rfl rfl rfl (by first | decide | omega) rfl rfl ?_ | refine WL.storeW (vs := [_, _]) st.front5 ty_agg61 rfl rfl rfl rfl rfl rfl ?_ | refine WL.storeL (vs := [_, _]) st.front5 ty_agg61 rfl rfl rfl rfl (by first | decide | omega) rfl rfl ?_ | refine WL.storeW (vs := [_, _]) st.front6 ty_agg61 rfl rfl rfl rfl rfl rfl ?_ | refine WL.storeL (vs := [_, _]) st.front6 ty_agg61 rfl rfl rfl rfl (by first | decide | omega) rfl rfl ?_ | refine WL.storeW (vs := [_, _]) st.front7 ty_agg61 rfl rfl rfl rfl rfl rfl ?_ | refine WL.storeL (vs := [_, _]) st.front7 ty_agg61 rfl rfl rfl rfl (by first | decide | omega) rfl rfl ?_ | refine WL.storeW (vs := [_, _]) st.front8 ty_agg61 rfl rfl rfl rfl rfl rfl ?_ | refine WL.storeL (vs := [_, _]) st.front8 ty_agg61 rfl rfl rfl rfl (by first | decide | omega) rfl rfl ?_
    intro w st
    -- R11.3 6 := resourcem.go:100 assign
    refine WL.v (by first | exact r_assign (v := .bool _) rfl | exact r_assign rfl) rfl rfl rfl ?_
    refine WL.fin hK354 (fun _ _ h => h) ?_
    refine WC.retTCT (vs := [_, _]) Tryz.results167 (fun _ _ h => h) rfl ty_agg61 rfl ⟨(by first | assumption | exact st.c0 (by first | decide | omega) | exact st.c1 (by first | decide | omega) | exact st.c2 (by first | decide | omega) | exact st.c3 (by first | decide | omega) | exact st.c4 (by first | decide | omega) | exact st.c5 (by first | decide | omega) | exact st.c6 (by first | decide | omega) | exact st.c7 (by first | decide | omega) | exact st.c8 (by first | decide | omega)), (by first | assumption | exact st.c0 (by first | decide | omega) | exact st.c1 (by first | decide | omega) | exact st.c2 (by first | decide | omega) | exact st.c3 (by first | decide | omega) | exact st.c4 (by first | decide | omega) | exact st.c5 (by first | decide | omega) | exact st.c6 (by first | decide | omega) | exact st.c7 (by first | decide | omega) | exact st.c8 (by first | decide | omega)), trivial⟩ ?_
    exact ⟨_, rfl, by rw [hw]; rfl, st.drop⟩
  have hi' : i < 20 := by omega
  obtain ⟨a, c, b, hv, hc1, hc2, ha, hcell⟩ := (hq i hi').form
  obtain ⟨Q, hQ⟩ : ∃ Q, Q = queue i := ⟨_, rfl⟩
  rw [← hQ] at hv hc1 ha hcell
  have hw1 : waitP queue t = match Q.find? (fun q => q.1 == t) with | some q => some (i, q) | none => waitF queue t (20 - (i + 1)) (i + 1) := by rw [hw, show 20 - i = (20 - (i + 1)) + 1 by omega, hQ]; rfl
  refine WC.seq fun K355 hK355 => ?_
  -- region 2
  refine WC.region ?_
  -- R2.0 11 := resourcem.go:93 binOp
  refine WL.v (by first | exact r_lss rfl rfl (decide_eq_true (by omega)) | exact r_lss rfl rfl (decide_eq_false (by omega)) | exact r_lss rfl rfl rfl) rfl rfl rfl ?_
  refine WL.fin hK355 (fun _ _ h => h) ?_
  refine WC.seq fun K356 hK356 => ?_
  refine WC.condT rfl rfl ?_
  refine WC.skipF hK356 (fun _ _ h => h) ?_
  refine WC.seq fun K357 hK357 => ?_
  refine WC.block ?_
  refine WC.seq fun K358 hK358 => ?_
  -- region 3
  refine WC.region ?_
  -- R3.0 12 := resourcem.go:93 move
  refine WL.v (by first | exact r_move (v := .int _ _) rfl | exact r_move rfl) rfl rfl rfl ?_
  -- R3.1 7 := resourcem.go:93 assign
  refine WL.v (by first | exact r_assign (v := .int _ _) rfl | exact r_assign rfl) rfl rfl rfl ?_
  refine WL.fin hK358 (fun _ _ h => h) ?_
  refine WC.seq fun K359 hK359 => ?_
  -- region 4
  refine WC.region ?_
  -- R4.0 13 := resourcem.go:94 move
  refine WL.v (by first | exact r_move (v := .pointer _) rfl | exact r_move rfl) rfl rfl rfl ?_
  -- R4.1 14 := resourcem.go:94 move
  refine WL.v (by first | exact r_move (v := .int _ _) rfl | exact r_move rfl) rfl rfl rfl ?_
  -- R4.2 15 := resourcem.go:94 nilCheck
  refine WL.v (by exact r_nilCheck rfl) rfl rfl rfl ?_
  -- R4.3 16 := resourcem.go:94 fieldAddr
  refine WL.v (by exact r_field ty_fld149_1 rfl) rfl rfl rfl ?_
  -- R4.4 17 := resourcem.go:94 indexAddr
  refine WL.v (by exact r_indexA ty_ar47 rfl rfl rfl (by omega)) rfl rfl rfl ?_
  -- R4.5 18 := resourcem.go:94 load
  refine WL.v (by exact r_load1 (v := .slice a Q.length c) ty_one46 rfl (by rw [c_queue (held := held) (qv := qv) st (List.mem_cons_of_mem _ hm) hi', hv])) rfl rfl rfl ?_
  -- R4.6 19 := resourcem.go:94 call
  refine WL.v (by exact r_len ty_usl46 rfl) rfl rfl rfl ?_
  -- R4.7 20 := resourcem.go:94 move
  refine WL.v (by first | exact r_move (v := .int _ _) rfl | exact r_move rfl) rfl rfl rfl ?_
  refine WL.fin hK359 (fun _ _ h => h) ?_
  refine WC.block ?_
  refine WC.loop (ι := Nat) (fun j => [(0, .pointer (some ⟨br, 0, none⟩)), (1, .int .i64 (t : Nat)), (4, .int .i64 0), (5, .pointer (some ⟨b5, 0, none⟩)), (6, .bool false), (7, .int .i64 (i : Nat)), (10, .int .i64 (i : Nat)), (18, .slice a Q.length c), (19, .int .i64 (Q.length : Nat)), (20, .int .i64 (j : Nat))])
    (fun j w' => j ≤ Q.length ∧ Q.find? (fun q => q.1 == t) = (Q.drop j).find? (fun q => q.1 == t) ∧ S0 w0 ((b5, Row 61 2 (nth [.int .i64 0, .int .i64 0])) :: l) w') (fun j => Q.length - j) 0 ⟨Nat.zero_le _, rfl, st⟩ ?_ ?_
  · skip
    repeat (first | exact sub_nil _ | refine sub_cons rfl rfl ?_)
  clear st
  rintro j w ⟨hj, hfj, st⟩ K2 hK2
  by_cases hjl : j = Q.length
  · subst hjl
    rw [List.drop_length] at hfj
    refine WC.seq fun K360 hK360 => ?_
    -- region 5
    refine WC.region ?_
    -- R5.0 21 := resourcem.go:94 binOp
    refine WL.v (by first | exact r_lss rfl rfl (decide_eq_true (by omega)) | exact r_lss rfl rfl (decide_eq_false (by omega)) | exact r_lss rfl rfl rfl) rfl rfl rfl ?_
    refine WL.fin hK360 (fun _ _ h => h) ?_
    refine WC.seq fun K361 hK361 => ?_
    refine WC.condF rfl rfl ?_
    refine WC.exitF hK357 (fun _ _ h => h) ?_
    -- region 10
    refine WC.region ?_
    -- R10.0 31 := resourcem.go:93 binOp
    refine WL.v (by first | exact r_add rfl rfl (wi64 (by omega) (by omega)) | exact r_add rfl rfl rfl) rfl rfl rfl ?_
    -- R10.1 10 := resourcem.go:93 move
    refine WL.v (by first | exact r_move (v := .int _ _) rfl | exact r_move rfl) rfl rfl rfl ?_
    refine WL.next hK1 (fun _ _ h => h) (i + 1) ⟨hi', by rw [hw1, hfj]; rfl, st⟩ (by omega) (by repeat (first | exact sub_nil _ | refine sub_cons rfl rfl ?_))
  have hjl' : j < Q.length := by omega
  obtain ⟨q, hqj⟩ : ∃ q, Q[j]? = some q := ⟨Q[j], List.getElem?_eq_getElem hjl'⟩
  have hdr : Q.drop j = q :: Q.drop (j + 1) := by
    have e : Q[j] = q := by rw [List.getElem?_eq_getElem hjl'] at hqj; exact Option.some.inj hqj
    rw [← e]; exact List.drop_eq_getElem_cons hjl'
  rw [hdr] at hfj
  obtain rfl := ha (by omega)
  have hce := fun k hk => hcell st.drop (hX i hi') j q hqj k hk
  by_cases ht : q.1 = t
  · have hf : Q.find? (fun q => q.1 == t) = some q := by rw [hfj, List.find?_cons_of_pos (by simpa using ht)]
    refine WC.seq fun K362 hK362 => ?_
    -- region 5
    refine WC.region ?_
    -- R5.0 21 := resourcem.go:94 binOp
    refine WL.v (by first | exact r_lss rfl rfl (decide_eq_true (by omega)) | exact r_lss rfl rfl (decide_eq_false (by omega)) | exact r_lss rfl rfl rfl) rfl rfl rfl ?_
    refine WL.fin hK362 (fun _ _ h => h) ?_
    refine WC.seq fun K363 hK363 => ?_
    refine WC.condT rfl rfl ?_
    refine WC.skipF hK363 (fun _ _ h => h) ?_
    refine WC.seq fun K364 hK364 => ?_
    refine WC.block ?_
    refine WC.seq fun K365 hK365 => ?_
    -- region 6
    refine WC.region ?_
    -- R6.0 22 := resourcem.go:94 indexAddr
    refine WL.v (by exact r_indexS (j := j) ty_sl46 rfl rfl rfl (by omega)) rfl rfl rfl ?_
    -- R6.1 23 := resourcem.go:94 load
    refine WL.v (by exact r_loadL (vs := [.int .i64 (q.1 : Nat), .int .i64 (q.2 : Nat)]) ty_agg61 rfl ⟨by rw [Nat.zero_add]; exact hce 0 (by decide), by rw [Nat.zero_add]; exact hce 1 (by decide), trivial⟩) rfl rfl rfl ?_
    -- R6.2 9 := resourcem.go:94 alloc
    refine WL.alloc (m := 2) st ty_zero61 rfl rfl rfl ?_
    intro b9 w st
    -- R6.3 None := resourcem.go:94 store
    first | refine WL.storeW (vs := [_, _]) st ty_agg61 rfl rfl rfl rfl rfl rfl ?_ | refine WL.storeL (vs := [_, _]) st ty_agg61 rfl rfl rfl rfl (by first | decide | omega) rfl rfl ?_ | refine WL.storeW (vs := [_, _]) st.front1 ty_agg61 rfl rfl rfl rfl rfl rfl ?_ | refine WL.storeL (vs := [_, _]) st.front1 ty_agg61 rfl rfl rfl rfl (by first | decide | omega) rfl rfl ?_ | refine WL.storeW (vs := [_, _]) st.front2 ty_agg61 rfl rfl rfl rfl rfl rfl ?_ | refine WL.storeL (vs := [_, _]) st.front2 ty_agg61 rfl rfl rfl rfl (by first | decide | omega) rfl rfl ?_ | refine WL.storeW (vs := [_, _]) st.front3 ty_agg61 rfl rfl rfl rfl rfl rfl ?_ | refine WL.storeL (vs := [_, _]) st.front3 ty_agg61 rfl rfl rfl rfl (by first | decide | omega) rfl rfl ?_ | refine WL.storeW (vs := [_, _]) st.front4 ty_agg61 rfl rfl rfl rfl rfl rfl ?_ | refine WL.storeL (vs := [_, _]) st.front4 ty_agg61 rfl rfl rfl rfl (by first | decide | omega) rfl rfl ?_ | refine WL.storeW (vs := [_, _]) st.front5 ty_agg61 rfl rfl rfl rfl rfl rfl ?_ | refine WL.storeL (vs := [_, _]) st.front5 ty_agg61 rfl rfl rfl rfl (by first | decide | omega) rfl rfl ?_ | refine WL.storeW (vs := [_, _]) st.front6 ty_agg61 rfl rfl rfl rfl rfl rfl ?_ | refine WL.storeL (vs := [_, _]) st.front6 ty_agg61 rfl rfl rfl rfl (by first | decide | omega) rfl rfl ?_ | refine WL.storeW (vs := [_, _]) st.front7 ty_agg61 rfl rfl rfl rfl rfl rfl ?_ | refine WL.storeL (vs := [_, _]) st.front7 ty_agg61 rfl rfl rfl rfl (by first | decide | omega) rfl rfl ?_ | refine WL.storeW (vs := [_, _]) st.front8 ty_agg61 rfl rfl rfl rfl rfl rfl ?_ | refine WL.storeL (vs := [_, _]) st.front8 ty_agg61 rfl rfl rfl rfl (by first | decide | omega) rfl rfl ?_
    intro w st
    refine WL.fin hK365 (fun _ _ h => h) ?_
    refine WC.seq fun K366 hK366 => ?_
    -- region 7
    refine WC.region ?_
    -- R7.0 24 := resourcem.go:95 fieldAddr
    refine WL.v (by exact r_field ty_fld61_0 rfl) rfl rfl rfl ?_
    -- R7.1 25 := resourcem.go:95 load
    refine WL.v (by exact r_load1 ty_one31 rfl (by first | assumption | exact st.c0 (by first | decide | omega) | exact st.c1 (by first | decide | omega) | exact st.c2 (by first | decide | omega) | exact st.c3 (by first | decide | omega) | exact st.c4 (by first | decide | omega) | exact st.c5 (by first | decide | omega) | exact st.c6 (by first | decide | omega) | exact st.c7 (by first | decide | omega) | exact st.c8 (by first | decide | omega))) rfl rfl rfl ?_
    -- R7.2 26 := resourcem.go:95 move
    refine WL.v (by first | exact r_move (v := .int _ _) rfl | exact r_move rfl) rfl rfl rfl ?_
    -- R7.3 27 := resourcem.go:95 binOp
    refine WL.v (by exact r_eql rfl rfl (decide_eq_true (by omega))) rfl rfl rfl ?_
    refine WL.fin hK366 (fun _ _ h => h) ?_
    refine WC.condT rfl rfl ?_
    refine WC.seq fun K367 hK367 => ?_
    -- region 8 (draws)
    refine WC.tailS 3 st ty_mixed (by kernel_rfl) fun w st Kq hKq => ?_
    -- R8.0 28 := resourcem.go:96 move
    refine SL.v (by first | exact r_move (v := .int _ _) rfl | exact r_move rfl) rfl rfl rfl ?_
    -- R8.1 29 := resourcem.go:96 load
    refine SL.v (by exact r_loadL (vs := [_, _]) ty_agg61 rfl ⟨(by first | assumption | exact st.c0 (by first | decide | omega) | exact st.c1 (by first | decide | omega) | exact st.c2 (by first | decide | omega) | exact st.c3 (by first | decide | omega) | exact st.c4 (by first | decide | omega) | exact st.c5 (by first | decide | omega) | exact st.c6 (by first | decide | omega) | exact st.c7 (by first | decide | omega) | exact st.c8 (by first | decide | omega)), (by first | assumption | exact st.c0 (by first | decide | omega) | exact st.c1 (by first | decide | omega) | exact st.c2 (by first | decide | omega) | exact st.c3 (by first | decide | omega) | exact st.c4 (by first | decide | omega) | exact st.c5 (by first | decide | omega) | exact st.c6 (by first | decide | omega) | exact st.c7 (by first | decide | omega) | exact st.c8 (by first | decide | omega)), trivial⟩) rfl rfl rfl ?_
    -- R8.2 4 := resourcem.go:96 assign
    refine SL.v (by first | exact r_assign (v := .int _ _) rfl | exact r_assign rfl) rfl rfl rfl ?_
    refine SL.fin hKq ?_
    -- R8.3 None := resourcem.go:96 store
    first | refine WL.storeW (vs := [_, _]) st ty_agg61 rfl rfl rfl rfl rfl rfl ?_ | refine WL.storeL (vs := [_, _]) st ty_agg61 rfl rfl rfl rfl (by first | decide | omega) rfl rfl ?_ | refine WL.storeW (vs := [_, _]) st.front1 ty_agg61 rfl rfl rfl rfl rfl rfl ?_ | refine WL.storeL (vs := [_, _]) st.front1 ty_agg61 rfl rfl rfl rfl (by first | decide | omega) rfl rfl ?_ | refine WL.storeW (vs := [_, _]) st.front2 ty_agg61 rfl rfl rfl rfl rfl rfl ?_ | refine WL.storeL (vs := [_, _]) st.front2 ty_agg61 rfl rfl rfl rfl (by first | decide | omega) rfl rfl ?_ | refine WL.storeW (vs := [_, _]) st.front3 ty_agg61 rfl rfl rfl rfl rfl rfl ?_ | refine WL.storeL (vs := [_, _]) st.front3 ty_agg61 rfl rfl rfl rfl (by first | decide | omega) rfl rfl ?_ | refine WL.storeW (vs := [_, _]) st.front4 ty_agg61 rfl rfl rfl rfl rfl rfl ?_ | refine WL.storeL (vs := [_, _]) st.front4 ty_agg61 rfl rfl rfl rfl (by first | decide | omega) rfl rfl ?_ | refine WL.storeW (vs := [_, _]) st.front5 ty_agg61 rfl rfl rfl rfl rfl rfl ?_ | refine WL.storeL (vs := [_, _]) st.front5 ty_agg61 rfl rfl rfl rfl (by first | decide | omega) rfl rfl ?_ | refine WL.storeW (vs := [_, _]) st.front6 ty_agg61 rfl rfl rfl rfl rfl rfl ?_ | refine WL.storeL (vs := [_, _]) st.front6 ty_agg61 rfl rfl rfl rfl (by first | decide | omega) rfl rfl ?_ | refine WL.storeW (vs := [_, _]) st.front7 ty_agg61 rfl rfl rfl rfl rfl rfl ?_ | refine WL.storeL (vs := [_, _]) st.front7 ty_agg61 rfl rfl rfl rfl (by first | decide | omega) rfl rfl ?_ | refine WL.storeW (vs := [_, _]) st.front8 ty_agg61 rfl rfl rfl rfl rfl rfl ?_ | refine WL.storeL (vs := [_, _]) st.front8 ty_agg61 rfl rfl rfl rfl (by first | decide | omega) rfl rfl ?_
    intro w st
    -- R8.4 6 := resourcem.go:96 assign
    refine WL.v (by first | exact r_assign (v := .bool _) rfl | exact r_assign rfl) rfl rfl rfl ?_
    refine WL.fin hK367 (fun _ _ h => h) ?_
    refine WC.retTCT (vs := [_, _]) Tryz.results167 (fun _ _ h => h) rfl ty_agg61 rfl ⟨(by first | assumption | exact st.c0 (by first | decide | omega) | exact st.c1 (by first | decide | omega) | exact st.c2 (by first | decide | omega) | exact st.c3 (by first | decide | omega) | exact st.c4 (by first | decide | omega) | exact st.c5 (by first | decide | omega) | exact st.c6 (by first | decide | omega) | exact st.c7 (by first | decide | omega) | exact st.c8 (by first | decide | omega)), (by first | assumption | exact st.c0 (by first | decide | omega) | exact st.c1 (by first | decide | omega) | exact st.c2 (by first | decide | omega) | exact st.c3 (by first | decide | omega) | exact st.c4 (by first | decide | omega) | exact st.c5 (by first | decide | omega) | exact st.c6 (by first | decide | omega) | exact st.c7 (by first | decide | omega) | exact st.c8 (by first | decide | omega)), trivial⟩ ?_
    exact ⟨_, rfl, by rw [hw1, hf]; rfl, st.drop.drop⟩
  · have hf : Q.find? (fun q => q.1 == t) = (Q.drop (j + 1)).find? (fun q => q.1 == t) := by rw [hfj, List.find?_cons_of_neg (by simpa using ht)]
    refine WC.seq fun K368 hK368 => ?_
    -- region 5
    refine WC.region ?_
    -- R5.0 21 := resourcem.go:94 binOp
    refine WL.v (by first | exact r_lss rfl rfl (decide_eq_true (by omega)) | exact r_lss rfl rfl (decide_eq_false (by omega)) | exact r_lss rfl rfl rfl) rfl rfl rfl ?_
    refine WL.fin hK368 (fun _ _ h => h) ?_
    refine WC.seq fun K369 hK369 => ?_
    refine WC.condT rfl rfl ?_
    refine WC.skipF hK369 (fun _ _ h => h) ?_
    refine WC.seq fun K370 hK370 => ?_
    refine WC.block ?_
    refine WC.seq fun K371 hK371 => ?_
    -- region 6
    refine WC.region ?_
    -- R6.0 22 := resourcem.go:94 indexAddr
    refine WL.v (by exact r_indexS (j := j) ty_sl46 rfl rfl rfl (by omega)) rfl rfl rfl ?_
    -- R6.1 23 := resourcem.go:94 load
    refine WL.v (by exact r_loadL (vs := [.int .i64 (q.1 : Nat), .int .i64 (q.2 : Nat)]) ty_agg61 rfl ⟨by rw [Nat.zero_add]; exact hce 0 (by decide), by rw [Nat.zero_add]; exact hce 1 (by decide), trivial⟩) rfl rfl rfl ?_
    -- R6.2 9 := resourcem.go:94 alloc
    refine WL.alloc (m := 2) st ty_zero61 rfl rfl rfl ?_
    intro b9 w st
    -- R6.3 None := resourcem.go:94 store
    first | refine WL.storeW (vs := [_, _]) st ty_agg61 rfl rfl rfl rfl rfl rfl ?_ | refine WL.storeL (vs := [_, _]) st ty_agg61 rfl rfl rfl rfl (by first | decide | omega) rfl rfl ?_ | refine WL.storeW (vs := [_, _]) st.front1 ty_agg61 rfl rfl rfl rfl rfl rfl ?_ | refine WL.storeL (vs := [_, _]) st.front1 ty_agg61 rfl rfl rfl rfl (by first | decide | omega) rfl rfl ?_ | refine WL.storeW (vs := [_, _]) st.front2 ty_agg61 rfl rfl rfl rfl rfl rfl ?_ | refine WL.storeL (vs := [_, _]) st.front2 ty_agg61 rfl rfl rfl rfl (by first | decide | omega) rfl rfl ?_ | refine WL.storeW (vs := [_, _]) st.front3 ty_agg61 rfl rfl rfl rfl rfl rfl ?_ | refine WL.storeL (vs := [_, _]) st.front3 ty_agg61 rfl rfl rfl rfl (by first | decide | omega) rfl rfl ?_ | refine WL.storeW (vs := [_, _]) st.front4 ty_agg61 rfl rfl rfl rfl rfl rfl ?_ | refine WL.storeL (vs := [_, _]) st.front4 ty_agg61 rfl rfl rfl rfl (by first | decide | omega) rfl rfl ?_ | refine WL.storeW (vs := [_, _]) st.front5 ty_agg61 rfl rfl rfl rfl rfl rfl ?_ | refine WL.storeL (vs := [_, _]) st.front5 ty_agg61 rfl rfl rfl rfl (by first | decide | omega) rfl rfl ?_ | refine WL.storeW (vs := [_, _]) st.front6 ty_agg61 rfl rfl rfl rfl rfl rfl ?_ | refine WL.storeL (vs := [_, _]) st.front6 ty_agg61 rfl rfl rfl rfl (by first | decide | omega) rfl rfl ?_ | refine WL.storeW (vs := [_, _]) st.front7 ty_agg61 rfl rfl rfl rfl rfl rfl ?_ | refine WL.storeL (vs := [_, _]) st.front7 ty_agg61 rfl rfl rfl rfl (by first | decide | omega) rfl rfl ?_ | refine WL.storeW (vs := [_, _]) st.front8 ty_agg61 rfl rfl rfl rfl rfl rfl ?_ | refine WL.storeL (vs := [_, _]) st.front8 ty_agg61 rfl rfl rfl rfl (by first | decide | omega) rfl rfl ?_
    intro w st
    refine WL.fin hK371 (fun _ _ h => h) ?_
    refine WC.seq fun K372 hK372 => ?_
    -- region 7
    refine WC.region ?_
    -- R7.0 24 := resourcem.go:95 fieldAddr
    refine WL.v (by exact r_field ty_fld61_0 rfl) rfl rfl rfl ?_
    -- R7.1 25 := resourcem.go:95 load
    refine WL.v (by exact r_load1 ty_one31 rfl (by first | assumption | exact st.c0 (by first | decide | omega) | exact st.c1 (by first | decide | omega) | exact st.c2 (by first | decide | omega) | exact st.c3 (by first | decide | omega) | exact st.c4 (by first | decide | omega) | exact st.c5 (by first | decide | omega) | exact st.c6 (by first | decide | omega) | exact st.c7 (by first | decide | omega) | exact st.c8 (by first | decide | omega))) rfl rfl rfl ?_
    -- R7.2 26 := resourcem.go:95 move
    refine WL.v (by first | exact r_move (v := .int _ _) rfl | exact r_move rfl) rfl rfl rfl ?_
    -- R7.3 27 := resourcem.go:95 binOp
    refine WL.v (by exact r_eql rfl rfl (decide_eq_false (by omega))) rfl rfl rfl ?_
    refine WL.fin hK372 (fun _ _ h => h) ?_
    refine WC.condF rfl rfl ?_
    refine WC.skipF hK370 (fun _ _ h => h) ?_
    -- region 9
    refine WC.region ?_
    -- R9.0 30 := resourcem.go:94 binOp
    refine WL.v (by first | exact r_add rfl rfl (wi64 (by omega) (by omega)) | exact r_add rfl rfl rfl) rfl rfl rfl ?_
    -- R9.1 20 := resourcem.go:94 move
    refine WL.v (by first | exact r_move (v := .int _ _) rfl | exact r_move rfl) rfl rfl rfl ?_
    refine WL.next hK2 (fun _ _ h => h) (j + 1) ⟨hjl', hf, st.drop⟩ (by omega) (by repeat (first | exact sub_nil _ | refine sub_cons rfl rfl ?_))
end Go.Proofs.Qxb6500834aGreatDoor

