import Derived.Test.Qxb6500834aGreatDoorK45
set_option linter.unusedVariables false
set_option linter.unusedSimpArgs false
set_option maxRecDepth 20000
namespace Go.Proofs.Qxb6500834aGreatDoor
open Go.RowKit Go.E1 Go.Kern
theorem ty_call44 : callT Tryz.prog 44 = true := by kernel_rfl
theorem ty_call45 : callT Tryz.prog 45 = true := by kernel_rfl
theorem ty_call63 : callT Tryz.prog 63 = true := by kernel_rfl
theorem ty_call70 : callT Tryz.prog 70 = true := by kernel_rfl
theorem ty_one79 : oneT Tryz.prog 79 = true := by kernel_rfl
theorem ty_zero79 : zeroL Tryz.prog 79 = some [.pointer none] := by kernel_rfl
variable {w0 : World} {l X : List HI} {w : World} {s s' s0 : KS} {t r N n : Nat} {qv qv' : Nat → Value}

/-! Two results compared. -/
theorem ansEq_ok {X' : List HI} {v v' : Value} {Q : List (Nat × Nat × Nat)} (h : OL0 v Q X) (h' : OL0 v' Q X') (hX : X ⊆ l) (hX' : X' ⊆ l) (st : S0 w0 l w) :
    Calls Tryz.prog 70 #[v, v'] w (Ret fun r w' => r = .bool true ∧ S0 w0 l w') := by
  obtain ⟨a, c, b, rfl, hc1, hc2, ha, hcell⟩ := h.form
  obtain ⟨a', c', b', rfl, hc1', hc2', ha', hcell'⟩ := h'.form
  refine enter [.slice a Q.length c, .slice a' Q.length c'] Tryz.func70 rfl Tryz.ntmps70 rfl ?_
  show WC _ _ _ 26 [] [(0, .slice a Q.length c), (1, .slice a' Q.length c')] _
  refine WC.seq fun K2403 hK2403 => ?_
  -- region 0
  refine WC.region ?_
  -- R0.0 4 := slices.go:20 assign
  refine WL.v (by first | exact r_assign (v := .bool _) rfl | exact r_assign rfl) rfl rfl rfl ?_
  refine WL.fin hK2403 (fun _ _ h => h) ?_
  refine WC.seq fun K2404 hK2404 => ?_
  refine WC.seq fun K2405 hK2405 => ?_
  -- region 1
  refine WC.region ?_
  -- R1.0 6 := slices.go:21 move
  refine WL.v (by first | exact r_move (v := .slice _ _ _) rfl | exact r_move rfl) rfl rfl rfl ?_
  -- R1.1 7 := slices.go:21 call
  refine WL.v (by exact r_len ty_usl32 rfl) rfl rfl rfl ?_
  -- R1.2 8 := slices.go:21 move
  refine WL.v (by first | exact r_move (v := .slice _ _ _) rfl | exact r_move rfl) rfl rfl rfl ?_
  -- R1.3 9 := slices.go:21 call
  refine WL.v (by exact r_len ty_usl32 rfl) rfl rfl rfl ?_
  -- R1.4 10 := slices.go:21 binOp
  refine WL.v (by first | exact r_neq rfl rfl (decide_eq_true (by omega)) | exact r_neq rfl rfl (decide_eq_false (by omega)) | exact r_neq rfl rfl rfl) rfl rfl rfl ?_
  refine WL.fin hK2405 (fun _ _ h => h) ?_
  refine WC.condF rfl rfl ?_
  refine WC.skipF hK2404 (fun _ _ h => h) ?_
  refine WC.seq fun K2406 hK2406 => ?_
  refine WC.seq fun K2407 hK2407 => ?_
  -- region 3
  refine WC.region ?_
  -- R3.0 11 := slices.go:24 move
  refine WL.v (by first | exact r_move (v := .slice _ _ _) rfl | exact r_move rfl) rfl rfl rfl ?_
  -- R3.1 12 := slices.go:24 call
  refine WL.v (by exact r_len ty_usl32 rfl) rfl rfl rfl ?_
  -- R3.2 13 := slices.go:24 move
  refine WL.v (by first | exact r_move (v := .int _ _) rfl | exact r_move rfl) rfl rfl rfl ?_
  refine WL.fin hK2407 (fun _ _ h => h) ?_
  refine WC.block ?_
  refine WC.loop (ι := Nat) (fun k => [(0, .slice a Q.length c), (1, .slice a' Q.length c'), (12, .int .i64 (Q.length : Nat)), (13, .int .i64 (k : Nat))])
    (fun k w' => k ≤ Q.length ∧ S0 w0 l w') (fun k => Q.length - k) 0 ⟨Nat.zero_le _, st⟩ ?_ ?_
  · skip
    repeat (first | exact sub_nil _ | refine sub_cons rfl rfl ?_)
  clear st
  rintro k w ⟨hk, st⟩ K1 hK1
  by_cases hkl : k = Q.length
  · skip
    refine WC.seq fun K2408 hK2408 => ?_
    -- region 4
    refine WC.region ?_
    -- R4.0 14 := slices.go:24 binOp
    refine WL.v (by first | exact r_lss rfl rfl (decide_eq_true (by omega)) | exact r_lss rfl rfl (decide_eq_false (by omega)) | exact r_lss rfl rfl rfl) rfl rfl rfl ?_
    refine WL.fin hK2408 (fun _ _ h => h) ?_
    refine WC.seq fun K2409 hK2409 => ?_
    refine WC.condF rfl rfl ?_
    refine WC.exitF hK2406 (fun _ _ h => h) ?_
    refine WC.seq fun K2410 hK2410 => ?_
    -- region 9
    refine WC.region ?_
    -- R9.0 4 := slices.go:29 assign
    refine WL.v (by first | exact r_assign (v := .bool _) rfl | exact r_assign rfl) rfl rfl rfl ?_
    refine WL.fin hK2410 (fun _ _ h => h) ?_
    refine WC.ret1 Tryz.results70 (fun _ _ h => h) rfl ?_
    exact ⟨_, rfl, rfl, st⟩
  have hkl' : k < Q.length := by omega
  obtain ⟨e, he⟩ : ∃ e, Q[k]? = some e := ⟨Q[k], List.getElem?_eq_getElem hkl'⟩
  have hae := ha (by omega)
  have hae' := ha' (by omega)
  have hce := fun {w : World} (st : S0 w0 l w) j hj => hcell st hX k e he j hj
  have hce' := fun {w : World} (st : S0 w0 l w) j hj => hcell' st hX' k e he j hj
  refine WC.seq fun K2411 hK2411 => ?_
  -- region 4
  refine WC.region ?_
  -- R4.0 14 := slices.go:24 binOp
  refine WL.v (by first | exact r_lss rfl rfl (decide_eq_true (by omega)) | exact r_lss rfl rfl (decide_eq_false (by omega)) | exact r_lss rfl rfl rfl) rfl rfl rfl ?_
  refine WL.fin hK2411 (fun _ _ h => h) ?_
  refine WC.seq fun K2412 hK2412 => ?_
  refine WC.condT rfl rfl ?_
  refine WC.skipF hK2412 (fun _ _ h => h) ?_
  refine WC.seq fun K2413 hK2413 => ?_
  refine WC.block ?_
  refine WC.seq fun K2414 hK2414 => ?_
  -- region 5
  refine WC.region ?_
  -- R5.0 15 := slices.go:24 move
  refine WL.v (by first | exact r_move (v := .int _ _) rfl | exact r_move rfl) rfl rfl rfl ?_
  -- R5.1 5 := slices.go:24 assign
  refine WL.v (by first | exact r_assign (v := .int _ _) rfl | exact r_assign rfl) rfl rfl rfl ?_
  refine WL.fin hK2414 (fun _ _ h => h) ?_
  refine WC.seq fun K2415 hK2415 => ?_
  -- region 6 (draws)
  refine WC.quietS st ty_mixed (by kernel_rfl) fun Kq hKq => ?_
  -- R6.0 16 := slices.go:25 move
  refine QL.v (fun w st => by first | exact r_move (v := .slice _ _ _) rfl | exact r_move rfl) rfl rfl rfl ?_
  -- R6.1 17 := slices.go:25 move
  refine QL.v (fun w st => by first | exact r_move (v := .int _ _) rfl | exact r_move rfl) rfl rfl rfl ?_
  -- R6.2 18 := slices.go:25 indexAddr
  refine QL.v (fun w st => by exact r_indexS (j := k) ty_sl32 (congrArg (fun q => Value.slice q Q.length c) hae) rfl rfl (by omega)) rfl rfl rfl ?_
  -- R6.3 19 := slices.go:25 load
  refine QL.v (fun w st => by exact r_loadL (vs := [.int .i64 (e.1 : Nat), .int .u64 (e.2.1 : Nat), .int .i64 (e.2.2 : Nat)]) ty_agg83 rfl ⟨by rw [Nat.zero_add]; exact hce st 0 (by decide), by rw [Nat.zero_add]; exact hce st 1 (by decide), by rw [Nat.zero_add]; exact hce st 2 (by decide), trivial⟩) rfl rfl rfl ?_
  -- R6.4 20 := slices.go:25 move
  refine QL.v (fun w st => by first | exact r_move (v := .slice _ _ _) rfl | exact r_move rfl) rfl rfl rfl ?_
  -- R6.5 21 := slices.go:25 move
  refine QL.v (fun w st => by first | exact r_move (v := .int _ _) rfl | exact r_move rfl) rfl rfl rfl ?_
  -- R6.6 22 := slices.go:25 indexAddr
  refine QL.v (fun w st => by exact r_indexS (j := k) ty_sl32 (congrArg (fun q => Value.slice q Q.length c') hae') rfl rfl (by omega)) rfl rfl rfl ?_
  -- R6.7 23 := slices.go:25 load
  refine QL.v (fun w st => by exact r_loadL (vs := [.int .i64 (e.1 : Nat), .int .u64 (e.2.1 : Nat), .int .i64 (e.2.2 : Nat)]) ty_agg83 rfl ⟨by rw [Nat.zero_add]; exact hce' st 0 (by decide), by rw [Nat.zero_add]; exact hce' st 1 (by decide), by rw [Nat.zero_add]; exact hce' st 2 (by decide), trivial⟩) rfl rfl rfl ?_
  -- R6.8 24 := slices.go:25 binOp
  refine QL.v (fun w st => by exact r_aneq (n := 3) (F := oE e) (G := oE e) (t := false) eqAns rfl rfl rfl (fun i hi => by { match i, hi with | 0, _ => exact KFit.int | 1, _ => exact KFit.int | 2, _ => exact KFit.int | k + 3, h => omega }) ⟨fun _ _ _ => rfl, fun _ => rfl⟩) rfl rfl rfl ?_
  refine QL.wl hKq fun w st => ?_
  refine WL.fin hK2415 (fun _ _ h => h) ?_
  refine WC.condF rfl rfl ?_
  refine WC.skipF hK2413 (fun _ _ h => h) ?_
  -- region 8
  refine WC.region ?_
  -- R8.0 25 := slices.go:24 binOp
  refine WL.v (by first | exact r_add rfl rfl (wi64 (by omega) (by omega)) | exact r_add rfl rfl rfl) rfl rfl rfl ?_
  -- R8.1 13 := slices.go:24 move
  refine WL.v (by first | exact r_move (v := .int _ _) rfl | exact r_move rfl) rfl rfl rfl ?_
  refine WL.next hK1 (fun _ _ h => h) (k + 1) ⟨hkl', st⟩ (by omega) (by repeat (first | exact sub_nil _ | refine sub_cons rfl rfl ?_))
theorem resEq_ok {X' : List HI} {v v' : Value} {code task : Int} {Q : List (Nat × Nat × Nat)} (h : OL0 v Q X) (h' : OL0 v' Q X') (hX : X ⊆ l) (hX' : X' ⊆ l) (st : S0 w0 l w) :
    Calls Tryz.prog 44 #[.agg #[.int .i64 code, .int .i64 task, v], .agg #[.int .i64 code, .int .i64 task, v']] w (Ret fun r w' => r = .bool true ∧ S0 w0 l w') := by
  obtain ⟨a, c, b, hv, -, -, -, -⟩ := h.form
  obtain ⟨a', c', b', hv', -, -, -, -⟩ := h'.form
  subst hv hv'
  refine enter [.agg #[.int .i64 code, .int .i64 task, .slice a Q.length c], .agg #[.int .i64 code, .int .i64 task, .slice a' Q.length c']] Tryz.func44 rfl Tryz.ntmps44 rfl ?_
  show WC _ _ _ 24 [] [(0, .agg #[.int .i64 code, .int .i64 task, .slice a Q.length c]), (1, .agg #[.int .i64 code, .int .i64 task, .slice a' Q.length c'])] _
  refine WC.seq fun K2416 hK2416 => ?_
  -- region 0
  refine WC.region ?_
  -- R0.0 2 := api.go:179 box
  first | refine WL.box (m := 3) (vs := [.int _ _, .int _ _, .slice _ _ _]) st rfl rfl rfl rfl rfl rfl ?_ | refine WL.box (m := 3) (vs := [_, _, _]) st rfl rfl rfl rfl rfl rfl ?_ | refine WL.box st rfl rfl rfl rfl rfl rfl ?_
  intro b2 w st
  -- R0.1 3 := api.go:179 box
  first | refine WL.box (m := 3) (vs := [.int _ _, .int _ _, .slice _ _ _]) st rfl rfl rfl rfl rfl rfl ?_ | refine WL.box (m := 3) (vs := [_, _, _]) st rfl rfl rfl rfl rfl rfl ?_ | refine WL.box st rfl rfl rfl rfl rfl rfl ?_
  intro b3 w st
  -- R0.2 4 := api.go:179 assign
  refine WL.v (by first | exact r_assign (v := .bool _) rfl | exact r_assign rfl) rfl rfl rfl ?_
  refine WL.fin hK2416 (fun _ _ h => h) ?_
  refine WC.seq fun K2417 hK2417 => ?_
  -- region 1
  refine WC.region ?_
  -- R1.0 5 := api.go:180 fieldAddr
  refine WL.v (by exact r_field ty_fld34_0 rfl) rfl rfl rfl ?_
  -- R1.1 6 := api.go:180 load
  refine WL.v (by exact r_load1 ty_one30 rfl (by first | assumption | exact st.c0 (by first | decide | omega) | exact st.c1 (by first | decide | omega) | exact st.c2 (by first | decide | omega) | exact st.c3 (by first | decide | omega) | exact st.c4 (by first | decide | omega) | exact st.c5 (by first | decide | omega) | exact st.c6 (by first | decide | omega) | exact st.c7 (by first | decide | omega) | exact st.c8 (by first | decide | omega))) rfl rfl rfl ?_
  -- R1.2 7 := api.go:180 fieldAddr
  refine WL.v (by exact r_field ty_fld34_0 rfl) rfl rfl rfl ?_
  -- R1.3 8 := api.go:180 load
  refine WL.v (by exact r_load1 ty_one30 rfl (by first | assumption | exact st.c0 (by first | decide | omega) | exact st.c1 (by first | decide | omega) | exact st.c2 (by first | decide | omega) | exact st.c3 (by first | decide | omega) | exact st.c4 (by first | decide | omega) | exact st.c5 (by first | decide | omega) | exact st.c6 (by first | decide | omega) | exact st.c7 (by first | decide | omega) | exact st.c8 (by first | decide | omega))) rfl rfl rfl ?_
  -- R1.4 9 := api.go:180 binOp
  refine WL.v (by exact r_eql rfl rfl (decide_eq_true rfl)) rfl rfl rfl ?_
  -- R1.5 10 := api.go:180 move
  refine WL.v (by first | exact r_move (v := .bool _) rfl | exact r_move rfl) rfl rfl rfl ?_
  -- R1.6 11 := api.go:180 fieldAddr
  refine WL.v (by exact r_field ty_fld34_1 rfl) rfl rfl rfl ?_
  -- R1.7 12 := api.go:180 load
  refine WL.v (by exact r_load1 ty_one31 rfl (by first | assumption | exact st.c0 (by first | decide | omega) | exact st.c1 (by first | decide | omega) | exact st.c2 (by first | decide | omega) | exact st.c3 (by first | decide | omega) | exact st.c4 (by first | decide | omega) | exact st.c5 (by first | decide | omega) | exact st.c6 (by first | decide | omega) | exact st.c7 (by first | decide | omega) | exact st.c8 (by first | decide | omega))) rfl rfl rfl ?_
  -- R1.8 13 := api.go:180 fieldAddr
  refine WL.v (by exact r_field ty_fld34_1 rfl) rfl rfl rfl ?_
  -- R1.9 14 := api.go:180 load
  refine WL.v (by exact r_load1 ty_one31 rfl (by first | assumption | exact st.c0 (by first | decide | omega) | exact st.c1 (by first | decide | omega) | exact st.c2 (by first | decide | omega) | exact st.c3 (by first | decide | omega) | exact st.c4 (by first | decide | omega) | exact st.c5 (by first | decide | omega) | exact st.c6 (by first | decide | omega) | exact st.c7 (by first | decide | omega) | exact st.c8 (by first | decide | omega))) rfl rfl rfl ?_
  -- R1.10 15 := api.go:180 binOp
  refine WL.v (by exact r_eql rfl rfl (decide_eq_true rfl)) rfl rfl rfl ?_
  -- R1.11 16 := api.go:180 pick
  refine WL.v (by first | exact r_pickT (v := .bool _) rfl rfl | exact r_pickF (v := .bool _) rfl rfl) rfl rfl rfl ?_
  -- R1.12 17 := api.go:180 move
  refine WL.v (by first | exact r_move (v := .bool _) rfl | exact r_move rfl) rfl rfl rfl ?_
  -- R1.13 18 := api.go:180 fieldAddr
  refine WL.v (by exact r_field ty_fld34_2 rfl) rfl rfl rfl ?_
  -- R1.14 19 := api.go:180 load
  refine WL.v (by exact r_load1 ty_one32 rfl (by first | assumption | exact st.c0 (by first | decide | omega) | exact st.c1 (by first | decide | omega) | exact st.c2 (by first | decide | omega) | exact st.c3 (by first | decide | omega) | exact st.c4 (by first | decide | omega) | exact st.c5 (by first | decide | omega) | exact st.c6 (by first | decide | omega) | exact st.c7 (by first | decide | omega) | exact st.c8 (by first | decide | omega))) rfl rfl rfl ?_
  -- R1.15 20 := api.go:180 fieldAddr
  refine WL.v (by exact r_field ty_fld34_2 rfl) rfl rfl rfl ?_
  -- R1.16 21 := api.go:180 load
  refine WL.v (by exact r_load1 ty_one32 rfl (by first | assumption | exact st.c0 (by first | decide | omega) | exact st.c1 (by first | decide | omega) | exact st.c2 (by first | decide | omega) | exact st.c3 (by first | decide | omega) | exact st.c4 (by first | decide | omega) | exact st.c5 (by first | decide | omega) | exact st.c6 (by first | decide | omega) | exact st.c7 (by first | decide | omega) | exact st.c8 (by first | decide | omega))) rfl rfl rfl ?_
  -- R1.17 22 := api.go:180 call
  refine WL.call (r_call ty_call70 rfl) rfl rfl rfl (ansEq_ok h h' (fun x hx => List.mem_cons_of_mem _ (List.mem_cons_of_mem _ (hX hx))) (fun x hx => List.mem_cons_of_mem _ (List.mem_cons_of_mem _ (hX' hx))) st) ?_
  rintro _ w ⟨rfl, st⟩
  -- R1.18 23 := api.go:180 pick
  refine WL.v (by first | exact r_pickT (v := .bool _) rfl rfl | exact r_pickF (v := .bool _) rfl rfl) rfl rfl rfl ?_
  -- R1.19 4 := api.go:180 assign
  refine WL.v (by first | exact r_assign (v := .bool _) rfl | exact r_assign rfl) rfl rfl rfl ?_
  refine WL.fin hK2417 (fun _ _ h => h) ?_
  refine WC.ret1 Tryz.results44 (fun _ _ h => h) rfl ?_
  exact ⟨_, rfl, rfl, st.drop.drop⟩
/-! A kernel among the items. -/
def KZ (B : KA) (s : KS) (Z : List HI) : Prop := ∃ qv XQ tv XT ov XO, (∀ r, r < 20 → QL0 (qv r) (s.queue r) (XQ r)) ∧ TL0 tv s.timers XT ∧ OL0 ov s.told XO ∧
  Z = kR B.bk B.bm B.br B.bp s.tk s.cells s.births ov :: mI B.bm s.now s.armed tv :: rI B.br s.held qv :: pI B.bp s.mode s.claim :: (XT ++ (XO ++ gather 20 XQ))
theorem KZ.kh {B : KA} {Z : List HI} (h : KZ B s Z) (st : S0 w0 (Z ++ l) w) : KH w0 B s l w := by
  obtain ⟨qv, XQ, tv, XT, ov, XO, h1, h2, h3, rfl⟩ := h
  exact ⟨qv, XQ, tv, XT, ov, XO, h1, h2, h3, st.perm (by classical exact List.perm_iff_count.2 fun x => by simp only [List.count_append, List.count_cons, List.count_nil, List.append_eq, List.cons_append, List.nil_append, List.append_assoc, Nat.add_zero, Nat.zero_add] <;> ac_rfl)⟩
theorem KH.kz {B : KA} (h : KH w0 B s l w) : ∃ Z, KZ B s Z ∧ S0 w0 (Z ++ l) w := by
  obtain ⟨qv, XQ, tv, XT, ov, XO, h1, h2, h3, st⟩ := h
  exact ⟨_, ⟨qv, XQ, tv, XT, ov, XO, h1, h2, h3, rfl⟩, st.perm (by classical exact List.perm_iff_count.2 fun x => by simp only [List.count_append, List.count_cons, List.count_nil, List.append_eq, List.cons_append, List.nil_append, List.append_assoc, Nat.add_zero, Nat.zero_add] <;> ac_rfl)⟩
/-! Law: zero ticks is try. -/
theorem op_k4 {o : Kern.Op} : ∀ k, k < 5 → upd (nth (opL o)) (0 + 0) (.int .u8 4) k = nth (opL { o with kind := 4 }) k
  | 0, _ => rfl
  | 1, _ => rfl
  | 2, _ => rfl
  | 3, _ => rfl
  | 4, _ => rfl
  | k + 5, h => by omega
def tryO (o : Kern.Op) : Kern.Op := if o.kind = 5 ∧ o.X = 0 then { o with kind := 4 } else o
theorem one_upd {u v : Value} : ∀ k, k < 1 → upd (nth [u]) 0 v k = nth [v] k
  | 0, _ => rfl
  | k + 1, h => by omega
theorem try_step {o : Kern.Op} : stepP s (tryO o) = stepP s o := by
  unfold tryO
  split
  · rename_i h
    obtain ⟨k, A, B, C, x⟩ := o
    obtain ⟨h1, h2⟩ := h
    have h1 : k = 5 := h1
    have h2 : x = 0 := h2
    subst h1 h2
    rfl
  · rfl
set_option maxHeartbeats 4000000 in
theorem zero1_ok {o : Kern.Op} {bB bA : Nat} {code task : Int} {ov : Value} {ans : List (Nat × Nat × Nat)} {b0 N' : Nat} {B : KA} {Z0 : List HI} (hD : gD w0) (hB : KB N s) (hN : N ≤ 300000) (hnow : s.now < 1000000) (harm : s.armed < 300000) (hbi : s.births < 1000000) (hk : o.kind < 256) (hX : o.X < 18446744073709551616) (hB' : KB N' s') (hN' : N' ≤ 1000000) (hs' : s' = { (stepP s o).1 with told := [] }) (hans : ans = (stepP s o).1.told) (hcode : code = (stepP s o).2.1) (htask : task = (stepP s o).2.2) (hZ : KZ B s Z0) (hck : CK s s' ans bB bA qv qv' ov l) (st : S0 w0 ((b0, Row 79 1 (nth [.pointer (some ⟨B.bk, 0, none⟩)])) :: (Z0 ++ l)) w) :
    Calls Tryz.prog 63 #[.agg (stepL o bB bA code task ov).toArray, .pointer (some ⟨b0, 0, none⟩)] w (Ret fun v w' => v = .bool true ∧ ∃ Z1, KZ B s' Z1 ∧ S0 w0 ((b0, Row 79 1 (nth [.pointer (some ⟨B.bk, 0, none⟩)])) :: (Z1 ++ l)) w') := by
  obtain ⟨XO, ho, hXO⟩ := hck.a
  obtain ⟨a, c, b, rfl, hc1, hc2, ha, hcell⟩ := ho.form
  obtain ⟨fs, hfs⟩ : ∃ fs : Nat → Value, fs = nth (stepL o bB bA code task (.slice a ans.length c)) := ⟨_, rfl⟩
  have f0 : fs 0 = .int .u8 (o.kind : Nat) := by rw [hfs]; rfl
  have f1 : fs 1 = .int .i64 o.A := by rw [hfs]; rfl
  have f2 : fs 2 = .int .i64 o.B := by rw [hfs]; rfl
  have f3 : fs 3 = .int .i64 o.C := by rw [hfs]; rfl
  have f4 : fs 4 = .int .u64 (o.X : Nat) := by rw [hfs]; rfl
  have f5 : fs 5 = .pointer (some ⟨bB, 0, none⟩) := by rw [hfs]; rfl
  have f6 : fs 6 = .pointer (some ⟨bA, 0, none⟩) := by rw [hfs]; rfl
  have f7 : fs 7 = .int .i64 code := by rw [hfs]; rfl
  have f8 : fs 8 = .int .i64 task := by rw [hfs]; rfl
  have f9 : fs 9 = .slice a ans.length c := by rw [hfs]; rfl
  have hst := try_step (s := s) (o := o)
  refine enter [.agg (stepL o bB bA code task (.slice a ans.length c)).toArray, .pointer (some ⟨b0, 0, none⟩)] Tryz.func63 rfl Tryz.ntmps63 rfl ?_
  show WC _ _ _ 32 [] [(0, .agg (stepL o bB bA code task (.slice a ans.length c)).toArray), (1, .pointer (some ⟨b0, 0, none⟩))] _
  refine WC.seq fun K2418 hK2418 => ?_
  -- region 0
  refine WC.region ?_
  -- R0.0 2 := law.go:509 box
  refine WL.box (m := 10) (vs := stepL o bB bA code task (.slice a ans.length c)) st rfl rfl rfl rfl rfl rfl ?_
  intro b2 w st
  have st : S0 w0 ((b2, Row 36 10 fs) :: ((b0, Row 79 1 (nth [.pointer (some ⟨B.bk, 0, none⟩)])) :: (Z0 ++ l))) w := by rw [hfs]; exact st
  -- R0.1 3 := law.go:509 assign
  refine WL.v (by first | exact r_assign (v := .bool _) rfl | exact r_assign rfl) rfl rfl rfl ?_
  refine WL.fin hK2418 (fun _ _ h => h) ?_
  refine WC.seq fun K2419 hK2419 => ?_
  -- region 1
  refine WC.region ?_
  -- R1.0 7 := law.go:510 fieldAddr
  refine WL.v (by exact r_field ty_fld36_0 rfl) rfl rfl rfl ?_
  -- R1.1 8 := law.go:510 load
  refine WL.v (by exact r_loadL (vs := opL o) ty_agg28 rfl ⟨(st.c0 (by decide)).trans (congrArg some f0), (st.c0 (by decide)).trans (congrArg some f1), (st.c0 (by decide)).trans (congrArg some f2), (st.c0 (by decide)).trans (congrArg some f3), (st.c0 (by decide)).trans (congrArg some f4), trivial⟩) rfl rfl rfl ?_
  -- R1.2 4 := law.go:510 alloc
  refine WL.alloc (m := 5) st ty_zero28 rfl rfl rfl ?_
  intro b4 w st
  -- R1.3 None := law.go:510 store
  refine WL.storeW (vs := opL o) st ty_agg28 rfl rfl rfl rfl rfl rfl ?_
  intro w st
  refine WL.fin hK2419 (fun _ _ h => h) ?_
  have hrest : (tryO o).kind < 256 ∧ (tryO o).X < 18446744073709551616 := by
    unfold tryO
    split
    · exact ⟨(by decide : (4 : Nat) < 256), hX⟩
    · exact ⟨hk, hX⟩
  refine WC.cut (ι := Unit) (fun _ => [(1, .pointer (some ⟨b0, 0, none⟩)), (2, .pointer (some ⟨b2, 0, none⟩)), (4, .pointer (some ⟨b4, 0, none⟩))]) (fun _ w' => S0 w0 (oI b4 (tryO o) :: (b2, Row 36 10 fs) :: (b0, Row 79 1 (nth [.pointer (some ⟨B.bk, 0, none⟩)])) :: (Z0 ++ l)) w') ?_ ?_
  rotate_left
  · intro KC hKC
    by_cases h5 : o.kind = 5
    · by_cases h0 : o.X = 0
      · have e : tryO o = { o with kind := 4 } := if_pos ⟨h5, h0⟩
        refine WC.seq fun K2420 hK2420 => ?_
        -- region 2
        refine WC.region ?_
        -- R2.0 9 := law.go:511 fieldAddr
        refine WL.v (by exact r_field ty_fld28_0 rfl) rfl rfl rfl ?_
        -- R2.1 10 := law.go:511 load
        refine WL.v (by exact r_load1 (v := .int .u8 (o.kind : Nat)) ty_one25 rfl (st.c0 (by decide))) rfl rfl rfl ?_
        -- R2.2 11 := law.go:511 binOp
        refine WL.v (by first | exact r_eql rfl rfl (decide_eq_true (by omega)) | exact r_eql rfl rfl (decide_eq_false (by omega)) | exact r_eql rfl rfl rfl) rfl rfl rfl ?_
        -- R2.3 12 := law.go:511 move
        refine WL.v (by first | exact r_move (v := .bool _) rfl | exact r_move rfl) rfl rfl rfl ?_
        -- R2.4 13 := law.go:511 fieldAddr
        refine WL.v (by exact r_field ty_fld28_4 rfl) rfl rfl rfl ?_
        -- R2.5 14 := law.go:511 load
        refine WL.v (by exact r_load1 (v := .int .u64 (o.X : Nat)) ty_one26 rfl (st.c0 (by decide))) rfl rfl rfl ?_
        -- R2.6 15 := law.go:511 binOp
        refine WL.v (by first | exact r_eql rfl rfl (decide_eq_true (by omega)) | exact r_eql rfl rfl (decide_eq_false (by omega)) | exact r_eql rfl rfl rfl) rfl rfl rfl ?_
        -- R2.7 16 := law.go:511 pick
        refine WL.v (by first | exact r_pickT (v := .bool _) rfl rfl | exact r_pickF (v := .bool _) rfl rfl) rfl rfl rfl ?_
        refine WL.fin hK2420 (fun _ _ h => h) ?_
        refine WC.condT rfl rfl ?_
        -- region 3
        refine WC.region ?_
        -- R3.0 17 := law.go:512 fieldAddr
        refine WL.v (by exact r_field ty_fld28_0 rfl) rfl rfl rfl ?_
        -- R3.1 None := law.go:512 store
        first | refine WL.store (v := .int _ _) st ty_one25 rfl rfl rfl (by first | decide | omega) rfl rfl ?_ | refine WL.store (v := _) st ty_one25 rfl rfl rfl (by first | decide | omega) rfl rfl ?_ | refine WL.store (v := .int _ _) st.front1 ty_one25 rfl rfl rfl (by first | decide | omega) rfl rfl ?_ | refine WL.store (v := _) st.front1 ty_one25 rfl rfl rfl (by first | decide | omega) rfl rfl ?_ | refine WL.store (v := .int _ _) st.front2 ty_one25 rfl rfl rfl (by first | decide | omega) rfl rfl ?_ | refine WL.store (v := _) st.front2 ty_one25 rfl rfl rfl (by first | decide | omega) rfl rfl ?_ | refine WL.store (v := .int _ _) st.front3 ty_one25 rfl rfl rfl (by first | decide | omega) rfl rfl ?_ | refine WL.store (v := _) st.front3 ty_one25 rfl rfl rfl (by first | decide | omega) rfl rfl ?_ | refine WL.store (v := .int _ _) st.front4 ty_one25 rfl rfl rfl (by first | decide | omega) rfl rfl ?_ | refine WL.store (v := _) st.front4 ty_one25 rfl rfl rfl (by first | decide | omega) rfl rfl ?_ | refine WL.store (v := .int _ _) st.front5 ty_one25 rfl rfl rfl (by first | decide | omega) rfl rfl ?_ | refine WL.store (v := _) st.front5 ty_one25 rfl rfl rfl (by first | decide | omega) rfl rfl ?_ | refine WL.store (v := .int _ _) st.front6 ty_one25 rfl rfl rfl (by first | decide | omega) rfl rfl ?_ | refine WL.store (v := _) st.front6 ty_one25 rfl rfl rfl (by first | decide | omega) rfl rfl ?_ | refine WL.store (v := .int _ _) st.front7 ty_one25 rfl rfl rfl (by first | decide | omega) rfl rfl ?_ | refine WL.store (v := _) st.front7 ty_one25 rfl rfl rfl (by first | decide | omega) rfl rfl ?_ | refine WL.store (v := .int _ _) st.front8 ty_one25 rfl rfl rfl (by first | decide | omega) rfl rfl ?_ | refine WL.store (v := _) st.front8 ty_one25 rfl rfl rfl (by first | decide | omega) rfl rfl ?_
        intro w st
        refine WL.join hKC (fun _ _ h => h) () (by rw [e]; exact stE op_k4 st) (by repeat (first | exact sub_nil _ | refine sub_cons rfl rfl ?_))
      · have e : tryO o = o := if_neg (fun k => h0 k.2)
        refine WC.seq fun K2421 hK2421 => ?_
        -- region 2
        refine WC.region ?_
        -- R2.0 9 := law.go:511 fieldAddr
        refine WL.v (by exact r_field ty_fld28_0 rfl) rfl rfl rfl ?_
        -- R2.1 10 := law.go:511 load
        refine WL.v (by exact r_load1 (v := .int .u8 (o.kind : Nat)) ty_one25 rfl (st.c0 (by decide))) rfl rfl rfl ?_
        -- R2.2 11 := law.go:511 binOp
        refine WL.v (by first | exact r_eql rfl rfl (decide_eq_true (by omega)) | exact r_eql rfl rfl (decide_eq_false (by omega)) | exact r_eql rfl rfl rfl) rfl rfl rfl ?_
        -- R2.3 12 := law.go:511 move
        refine WL.v (by first | exact r_move (v := .bool _) rfl | exact r_move rfl) rfl rfl rfl ?_
        -- R2.4 13 := law.go:511 fieldAddr
        refine WL.v (by exact r_field ty_fld28_4 rfl) rfl rfl rfl ?_
        -- R2.5 14 := law.go:511 load
        refine WL.v (by exact r_load1 (v := .int .u64 (o.X : Nat)) ty_one26 rfl (st.c0 (by decide))) rfl rfl rfl ?_
        -- R2.6 15 := law.go:511 binOp
        refine WL.v (by first | exact r_eql rfl rfl (decide_eq_true (by omega)) | exact r_eql rfl rfl (decide_eq_false (by omega)) | exact r_eql rfl rfl rfl) rfl rfl rfl ?_
        -- R2.7 16 := law.go:511 pick
        refine WL.v (by first | exact r_pickT (v := .bool _) rfl rfl | exact r_pickF (v := .bool _) rfl rfl) rfl rfl rfl ?_
        refine WL.fin hK2421 (fun _ _ h => h) ?_
        refine WC.condF rfl rfl ?_
        refine WC.skipJ hKC (fun _ _ h => h) () (by rw [e]; exact st) (by repeat (first | exact sub_nil _ | refine sub_cons rfl rfl ?_))
    · have e : tryO o = o := if_neg (fun k => h5 k.1)
      refine WC.seq fun K2422 hK2422 => ?_
      -- region 2
      refine WC.region ?_
      -- R2.0 9 := law.go:511 fieldAddr
      refine WL.v (by exact r_field ty_fld28_0 rfl) rfl rfl rfl ?_
      -- R2.1 10 := law.go:511 load
      refine WL.v (by exact r_load1 (v := .int .u8 (o.kind : Nat)) ty_one25 rfl (st.c0 (by decide))) rfl rfl rfl ?_
      -- R2.2 11 := law.go:511 binOp
      refine WL.v (by first | exact r_eql rfl rfl (decide_eq_true (by omega)) | exact r_eql rfl rfl (decide_eq_false (by omega)) | exact r_eql rfl rfl rfl) rfl rfl rfl ?_
      -- R2.3 12 := law.go:511 move
      refine WL.v (by first | exact r_move (v := .bool _) rfl | exact r_move rfl) rfl rfl rfl ?_
      -- R2.4 13 := law.go:511 fieldAddr
      refine WL.no rfl rfl ?_
      -- R2.5 14 := law.go:511 load
      refine WL.no rfl rfl ?_
      -- R2.6 15 := law.go:511 binOp
      refine WL.no rfl rfl ?_
      -- R2.7 16 := law.go:511 pick
      refine WL.v (by first | exact r_pickT (v := .bool _) rfl rfl | exact r_pickF (v := .bool _) rfl rfl) rfl rfl rfl ?_
      refine WL.fin hK2422 (fun _ _ h => h) ?_
      refine WC.condF rfl rfl ?_
      refine WC.skipJ hKC (fun _ _ h => h) () (by rw [e]; exact st) (by repeat (first | exact sub_nil _ | refine sub_cons rfl rfl ?_))
  clear st
  rintro _ w st
  refine WC.seq fun K2423 hK2423 => ?_
  -- region 4
  refine WC.region ?_
  -- R4.0 18 := law.go:514 load
  refine WL.v (by exact r_load1 (v := .pointer (some ⟨B.bk, 0, none⟩)) ty_one79 rfl (st.c2 (by decide))) rfl rfl rfl ?_
  -- R4.1 19 := law.go:514 load
  refine WL.v (by exact r_loadL (vs := opL (tryO o)) ty_agg28 rfl ⟨st.c0 (by decide), st.c0 (by decide), st.c0 (by decide), st.c0 (by decide), st.c0 (by decide), trivial⟩) rfl rfl rfl ?_
  -- R4.2 20 := law.go:514 call
  have stK := hZ.kh (l := oI b4 (tryO o) :: (b2, Row 36 10 fs) :: (b0, Row 79 1 (nth [.pointer (some ⟨B.bk, 0, none⟩)])) :: l) (st.perm (by classical exact List.perm_iff_count.2 fun x => by simp only [List.count_append, List.count_cons, List.count_nil, List.append_eq, List.cons_append, List.nil_append, List.append_assoc, Nat.add_zero, Nat.zero_add] <;> ac_rfl))
  refine WL.call (r_call ty_call52 rfl) rfl rfl rfl (step_ok (o := tryO o) hD hB hN hnow harm hbi hrest.1 hrest.2 stK) ?_
  rintro _ w ⟨ov, XO2, hor, rfl, st⟩
  rw [hst, ← hans] at hor
  rw [hst, ← hs'] at st
  rw [hst, ← hcode, ← htask]
  have hor' := hor
  obtain ⟨ar, cr, br, rfl, -, -, -, -⟩ := hor.form
  obtain ⟨Z2, st, back2⟩ := st.items
  -- R4.3 5 := law.go:514 alloc
  refine WL.alloc (m := 3) st ty_zero34 rfl rfl rfl ?_
  intro b5 w st
  -- R4.4 None := law.go:514 store
  refine WL.storeW (vs := [.int .i64 code, .int .i64 task, .slice ar ans.length cr]) st ty_agg34 rfl rfl rfl rfl rfl rfl ?_
  intro w st
  have st := back2 (L' := (b5, Row 34 3 (nth [.int .i64 code, .int .i64 task, .slice ar ans.length cr])) :: (XO2 ++ (oI b4 (tryO o) :: (b2, Row 36 10 fs) :: (b0, Row 79 1 (nth [.pointer (some ⟨B.bk, 0, none⟩)])) :: l))) st
  obtain ⟨Z3, st, back3⟩ := st.items
  refine WL.fin hK2423 (fun _ _ h => h) ?_
  refine WC.seq fun K2424 hK2424 => ?_
  -- region 5
  refine WC.region ?_
  -- R5.0 21 := law.go:515 load
  refine WL.v (by exact r_load1 (v := .pointer (some ⟨B.bk, 0, none⟩)) ty_one79 rfl (st.cell (b := b0) (t := 79) (n := 1) (f := nth [.pointer (some ⟨B.bk, 0, none⟩)]) (by simp) (by decide))) rfl rfl rfl ?_
  -- R5.1 22 := law.go:515 call
  refine WL.call (r_call ty_call53 rfl) rfl rfl rfl (snapshot_ok hB' hN' (back3 st)) ?_
  rintro _ w ⟨qv2, XS2, hq2, rfl, st⟩
  obtain ⟨Z4, hZ4, st⟩ := st.kz
  -- R5.2 6 := law.go:515 alloc
  refine WL.allocN (m := 771) st zero50 rfl rfl ?_
  intro b6 w st
  -- R5.3 None := law.go:515 store
  refine WL.storeN (v := sF s' qv2) st ty_agg50 rfl rfl (sF_one (fun r hr => ql_one (hq2 r hr))) (by decide) rfl rfl ?_
  intro w st
  have st : S0 w0 (sI b6 s' qv2 :: (Z4 ++ (gather 20 XS2 ++ ((b5, Row 34 3 (nth [.int .i64 code, .int .i64 task, .slice ar ans.length cr])) :: (XO2 ++ (oI b4 (tryO o) :: (b2, Row 36 10 fs) :: (b0, Row 79 1 (nth [.pointer (some ⟨B.bk, 0, none⟩)])) :: l)))))) w := stE (fun k hk => by rw [upds_eq, if_pos (by omega), Nat.sub_zero]) st
  have hmem : ∀ x, x ∈ l → x ∈ sI b6 s' qv2 :: (Z4 ++ (gather 20 XS2 ++ ((b5, Row 34 3 (nth [.int .i64 code, .int .i64 task, .slice ar ans.length cr])) :: (XO2 ++ (oI b4 (tryO o) :: (b2, Row 36 10 fs) :: (b0, Row 79 1 (nth [.pointer (some ⟨B.bk, 0, none⟩)])) :: l))))) := fun x hx => by simp only [List.mem_cons, List.mem_append]; exact .inr (.inr (.inr (.inr (.inr (.inr (.inr (.inr hx)))))))
  have hmO : ∀ x, x ∈ XO2 → x ∈ sI b6 s' qv2 :: (Z4 ++ (gather 20 XS2 ++ ((b5, Row 34 3 (nth [.int .i64 code, .int .i64 task, .slice ar ans.length cr])) :: (XO2 ++ (oI b4 (tryO o) :: (b2, Row 36 10 fs) :: (b0, Row 79 1 (nth [.pointer (some ⟨B.bk, 0, none⟩)])) :: l))))) := fun x hx => by simp only [List.mem_cons, List.mem_append]; exact .inr (.inr (.inr (.inr (.inl hx))))
  have hckM := hck.mono hmem
  have hm2 : (b2, Row 36 10 fs) ∈ sI b6 s' qv2 :: (Z4 ++ (gather 20 XS2 ++ ((b5, Row 34 3 (nth [.int .i64 code, .int .i64 task, .slice ar ans.length cr])) :: (XO2 ++ (oI b4 (tryO o) :: (b2, Row 36 10 fs) :: (b0, Row 79 1 (nth [.pointer (some ⟨B.bk, 0, none⟩)])) :: l))))) := by simp
  have hm5 : (b5, Row 34 3 (nth [.int .i64 code, .int .i64 task, .slice ar ans.length cr])) ∈ sI b6 s' qv2 :: (Z4 ++ (gather 20 XS2 ++ ((b5, Row 34 3 (nth [.int .i64 code, .int .i64 task, .slice ar ans.length cr])) :: (XO2 ++ (oI b4 (tryO o) :: (b2, Row 36 10 fs) :: (b0, Row 79 1 (nth [.pointer (some ⟨B.bk, 0, none⟩)])) :: l))))) := by simp
  refine WL.fin hK2424 (fun _ _ h => h) ?_
  refine WC.seq fun K2425 hK2425 => ?_
  -- region 6
  refine WC.region ?_
  -- R6.0 23 := law.go:516 load
  refine WL.v (by exact r_loadL (vs := [.int .i64 code, .int .i64 task, .slice ar ans.length cr]) ty_agg34 rfl ⟨st.cell hm5 (by decide), st.cell hm5 (by decide), st.cell hm5 (by decide), trivial⟩) rfl rfl rfl ?_
  -- R6.1 24 := law.go:516 fieldAddr
  refine WL.v (by exact r_field ty_fld36_3 rfl) rfl rfl rfl ?_
  -- R6.2 25 := law.go:516 load
  refine WL.v (by exact r_loadL (vs := [.int .i64 code, .int .i64 task, .slice a ans.length c]) ty_agg34 rfl ⟨(st.cell hm2 (by decide)).trans (congrArg some f7), (st.cell hm2 (by decide)).trans (congrArg some f8), (st.cell hm2 (by decide)).trans (congrArg some f9), trivial⟩) rfl rfl rfl ?_
  -- R6.3 26 := law.go:516 call
  refine WL.call (r_call ty_call44 rfl) rfl rfl rfl (resEq_ok hor' ho hmO (fun x hx => hmem x (hXO hx)) st) ?_
  rintro _ w ⟨rfl, st⟩
  -- R6.4 27 := law.go:516 move
  refine WL.v (by first | exact r_move (v := .bool _) rfl | exact r_move rfl) rfl rfl rfl ?_
  -- R6.5 28 := law.go:516 fieldAddr
  refine WL.v (by exact r_field ty_fld36_2 rfl) rfl rfl rfl ?_
  -- R6.6 29 := law.go:516 load
  refine WL.v (by exact r_load1 (v := .pointer (some ⟨bA, 0, none⟩)) ty_one29 rfl (by rw [← f6]; exact st.cell hm2 (by decide))) rfl rfl rfl ?_
  -- R6.7 30 := law.go:516 call
  refine WL.call (r_call ty_call45 rfl) rfl rfl rfl (stateEq_ok List.mem_cons_self hckM.A (fun r hr => ⟨XS2 r, hq2 r hr, fun x hx => by simp only [List.mem_cons, List.mem_append]; exact .inr (.inr (.inl (gather_sub hr hx)))⟩) hckM.q' st) ?_
  rintro _ w ⟨rfl, st⟩
  -- R6.8 31 := law.go:516 pick
  refine WL.v (by first | exact r_pickT (v := .bool _) rfl rfl | exact r_pickF (v := .bool _) rfl rfl) rfl rfl rfl ?_
  -- R6.9 3 := law.go:516 assign
  refine WL.v (by first | exact r_assign (v := .bool _) rfl | exact r_assign rfl) rfl rfl rfl ?_
  refine WL.fin hK2425 (fun _ _ h => h) ?_
  refine WC.ret1 Tryz.results63 (fun _ _ h => h) rfl ?_
  refine ⟨_, rfl, rfl, Z4, hZ4, ?_⟩
  have st := (st.perm (by classical exact List.perm_iff_count.2 fun x => by simp only [List.count_append, List.count_cons, List.count_nil, List.append_eq, List.cons_append, List.nil_append, List.append_assoc, Nat.add_zero, Nat.zero_add] <;> ac_rfl) : S0 w0 (sI b6 s' qv2 :: (gather 20 XS2 ++ ((b5, Row 34 3 (nth [.int .i64 code, .int .i64 task, .slice ar ans.length cr])) :: (XO2 ++ (oI b4 (tryO o) :: (b2, Row 36 10 fs) :: ((b0, Row 79 1 (nth [.pointer (some ⟨B.bk, 0, none⟩)])) :: (Z4 ++ l)))))) ) w)
  exact (st_dropL (st_dropL st.drop).drop).drop.drop
theorem zero_ok (a : Option Addr) (sb so n c : Nat) (op : Nat → Kern.Op) (hD : gD w) (hS : Scr w sb so n op) (hn63 : n ≤ 140737488355328) (ha : 0 < n → a = some ⟨sb, so, none⟩) :
    Calls Tryz.prog 20 #[.slice a n c] w (Ret fun v w' => v = .bool true ∧ S0 w [] w') := by
  have st : S0 w [] w := St.init w _
  by_cases hn : n ≤ 65536
  · have hC : ∀ b0 B, CheckOK w 63 #[.pointer (some ⟨b0, 0, none⟩)] op n fun i LI => ∃ Z0, KZ B (runP op i) Z0 ∧ LI = (b0, Row 79 1 (nth [.pointer (some ⟨B.bk, 0, none⟩)])) :: Z0 := fun b0 B => by
      rintro i bB bA qv qv' XS XS' ov XO LI Z w' hi ⟨Z0, hZ, rfl⟩ hQ st'
      have hK := run_KI op i
      have hK' := run_KI op (i + 1)
      have h1 := hK.now
      have h2 := hK.armed
      have h3 := hK.births
      refine (zero1_ok (s := runP op i) (s' := runP op (i + 1)) (l := QIs (runP op i) (runP op (i + 1)) bB bA qv qv' XS XS' XO Z) hD hK.b (by omega) (by omega) (by omega) (by omega) (hS.kind i hi) (hS.x i hi) hK'.b (by omega) rfl rfl rfl rfl hZ (CK.of hQ) (st'.perm (by classical exact List.perm_iff_count.2 fun x => by simp only [List.count_append, List.count_cons, List.count_nil, List.append_eq, List.cons_append, List.nil_append, List.append_assoc, Nat.add_zero, Nat.zero_add] <;> ac_rfl))).mono ?_
      rintro e w'' ⟨v, rfl, rfl, Z1, hZ1, st''⟩
      exact ⟨_, rfl, rfl, _, ⟨Z1, hZ1, rfl⟩, st''.perm (by classical exact List.perm_iff_count.2 fun x => by simp only [List.count_append, List.count_cons, List.count_nil, List.append_eq, List.cons_append, List.nil_append, List.append_assoc, Nat.add_zero, Nat.zero_add] <;> ac_rfl)⟩
    refine enter [.slice a n c] Tryz.func20 rfl Tryz.ntmps20 rfl ?_
    show WC _ _ _ 11 [] [(0, .slice a n c)] _
    refine WC.seq fun K2426 hK2426 => ?_
    -- region 0
    refine WC.region ?_
    -- R0.0 2 := law.go:503 assign
    refine WL.v (by first | exact r_assign (v := .bool _) rfl | exact r_assign rfl) rfl rfl rfl ?_
    refine WL.fin hK2426 (fun _ _ h => h) ?_
    refine WC.seq fun K2427 hK2427 => ?_
    refine WC.seq fun K2428 hK2428 => ?_
    -- region 1
    refine WC.region ?_
    -- R1.0 4 := law.go:504 move
    refine WL.v (by first | exact r_move (v := .slice _ _ _) rfl | exact r_move rfl) rfl rfl rfl ?_
    -- R1.1 5 := law.go:504 call
    refine WL.call (r_call ty_call23 rfl) rfl rfl rfl (zzSmall1_ok a n c st) ?_
    rintro _ w' ⟨he, st⟩
    rw [decide_eq_true hn] at he
    subst he
    -- R1.2 6 := law.go:504 unOp
    refine WL.v (by first | exact r_notT rfl | exact r_notF rfl | exact r_not rfl) rfl rfl rfl ?_
    refine WL.fin hK2428 (fun _ _ h => h) ?_
    refine WC.condF rfl rfl ?_
    refine WC.skipF hK2427 (fun _ _ h => h) ?_
    refine WC.seq fun K2429 hK2429 => ?_
    -- region 3
    refine WC.region ?_
    -- R3.0 7 := law.go:508 call
    refine WL.call (r_call ty_call51 rfl) rfl rfl rfl (newK_ok st) ?_
    rintro _ w1 ⟨B, rfl, st⟩
    obtain ⟨Z0, hZ0, st⟩ := st.kz
    -- R3.1 3 := law.go:508 alloc
    refine WL.alloc (m := 1) st ty_zero79 rfl rfl rfl ?_
    intro b3 w st
    -- R3.2 None := law.go:508 store
    first | refine WL.store (v := .pointer _) st ty_one79 rfl rfl rfl (by first | decide | omega) rfl rfl ?_ | refine WL.store (v := _) st ty_one79 rfl rfl rfl (by first | decide | omega) rfl rfl ?_ | refine WL.store (v := .pointer _) st.front1 ty_one79 rfl rfl rfl (by first | decide | omega) rfl rfl ?_ | refine WL.store (v := _) st.front1 ty_one79 rfl rfl rfl (by first | decide | omega) rfl rfl ?_ | refine WL.store (v := .pointer _) st.front2 ty_one79 rfl rfl rfl (by first | decide | omega) rfl rfl ?_ | refine WL.store (v := _) st.front2 ty_one79 rfl rfl rfl (by first | decide | omega) rfl rfl ?_ | refine WL.store (v := .pointer _) st.front3 ty_one79 rfl rfl rfl (by first | decide | omega) rfl rfl ?_ | refine WL.store (v := _) st.front3 ty_one79 rfl rfl rfl (by first | decide | omega) rfl rfl ?_ | refine WL.store (v := .pointer _) st.front4 ty_one79 rfl rfl rfl (by first | decide | omega) rfl rfl ?_ | refine WL.store (v := _) st.front4 ty_one79 rfl rfl rfl (by first | decide | omega) rfl rfl ?_ | refine WL.store (v := .pointer _) st.front5 ty_one79 rfl rfl rfl (by first | decide | omega) rfl rfl ?_ | refine WL.store (v := _) st.front5 ty_one79 rfl rfl rfl (by first | decide | omega) rfl rfl ?_ | refine WL.store (v := .pointer _) st.front6 ty_one79 rfl rfl rfl (by first | decide | omega) rfl rfl ?_ | refine WL.store (v := _) st.front6 ty_one79 rfl rfl rfl (by first | decide | omega) rfl rfl ?_ | refine WL.store (v := .pointer _) st.front7 ty_one79 rfl rfl rfl (by first | decide | omega) rfl rfl ?_ | refine WL.store (v := _) st.front7 ty_one79 rfl rfl rfl (by first | decide | omega) rfl rfl ?_ | refine WL.store (v := .pointer _) st.front8 ty_one79 rfl rfl rfl (by first | decide | omega) rfl rfl ?_ | refine WL.store (v := _) st.front8 ty_one79 rfl rfl rfl (by first | decide | omega) rfl rfl ?_
    intro w st
    refine WL.fin hK2429 (fun _ _ h => h) ?_
    refine WC.seq fun K2430 hK2430 => ?_
    -- region 4
    refine WC.region ?_
    -- R4.0 8 := law.go:509 move
    refine WL.v (by first | exact r_move (v := .slice _ _ _) rfl | exact r_move rfl) rfl rfl rfl ?_
    -- R4.1 9 := law.go:509 makeFunc
    refine WL.v (by exact r_mkfn rfl rfl) rfl rfl rfl ?_
    -- R4.2 10 := law.go:509 call
    have st := (stE one_upd st : S0 _ (((b3, Row 79 1 (nth [.pointer (some ⟨B.bk, 0, none⟩)])) :: Z0) ++ []) _)
    refine WL.call (r_call ty_call24 rfl) rfl rfl rfl (play_ok (l := []) (LI := (b3, Row 79 1 (nth [.pointer (some ⟨B.bk, 0, none⟩)])) :: Z0) ty_call63 hD hS hn ha (hC b3 B) ⟨Z0, hZ0, rfl⟩ st) ?_
    rintro _ w'' ⟨rfl, LI', ⟨Z1, -, rfl⟩, st⟩
    -- R4.3 2 := law.go:509 assign
    refine WL.v (by first | exact r_assign (v := .bool _) rfl | exact r_assign rfl) rfl rfl rfl ?_
    refine WL.fin hK2430 (fun _ _ h => h) ?_
    refine WC.ret1 Tryz.results20 (fun _ _ h => h) rfl ?_
    exact ⟨_, rfl, rfl, st.sublist (List.nil_sublist _)⟩
  · skip
    refine enter [.slice a n c] Tryz.func20 rfl Tryz.ntmps20 rfl ?_
    show WC _ _ _ 11 [] [(0, .slice a n c)] _
    refine WC.seq fun K2431 hK2431 => ?_
    -- region 0
    refine WC.region ?_
    -- R0.0 2 := law.go:503 assign
    refine WL.v (by first | exact r_assign (v := .bool _) rfl | exact r_assign rfl) rfl rfl rfl ?_
    refine WL.fin hK2431 (fun _ _ h => h) ?_
    refine WC.seq fun K2432 hK2432 => ?_
    refine WC.seq fun K2433 hK2433 => ?_
    -- region 1
    refine WC.region ?_
    -- R1.0 4 := law.go:504 move
    refine WL.v (by first | exact r_move (v := .slice _ _ _) rfl | exact r_move rfl) rfl rfl rfl ?_
    -- R1.1 5 := law.go:504 call
    refine WL.call (r_call ty_call23 rfl) rfl rfl rfl (zzSmall1_ok a n c st) ?_
    rintro _ w' ⟨he, st⟩
    rw [decide_eq_false hn] at he
    subst he
    -- R1.2 6 := law.go:504 unOp
    refine WL.v (by first | exact r_notT rfl | exact r_notF rfl | exact r_not rfl) rfl rfl rfl ?_
    refine WL.fin hK2433 (fun _ _ h => h) ?_
    refine WC.condT rfl rfl ?_
    refine WC.seq fun K2434 hK2434 => ?_
    -- region 2
    refine WC.region ?_
    -- R2.0 2 := law.go:505 assign
    refine WL.v (by first | exact r_assign (v := .bool _) rfl | exact r_assign rfl) rfl rfl rfl ?_
    refine WL.fin hK2434 (fun _ _ h => h) ?_
    refine WC.ret1 Tryz.results20 (fun _ _ h => h) rfl ?_
    exact ⟨_, rfl, rfl, st⟩
end Go.Proofs.Qxb6500834aGreatDoor

